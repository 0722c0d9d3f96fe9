import PyProof.Rows.All
import Wide.All
import OpenK.AllK
import Wide.FinOn
import PySem.Challenge.RW_pinshelf_k05_whole_ways_of_the_least_cos
import HandS.ForMost
import HandS.TupAny
import HandS.TupMul
import HandS.Conv
import HandS.Flow
import HandS.IsInst
import HandS.Walk
import HandS.TupLe
import HandS.DictComp
import HandS.ExcInit
import HandS.Style
import KE.GoesEnum
import HandS.Text
import HandS.Defaults
import HandS.WordsExc
import HandS.Sort
import KE.KTupSum
import HandS.SortInts
import HandS.SortRule
import HandS.SetFor
import HandS.Strs
import PyProof.Lay0
import HandS.HeadEnd
import HandS.Head2
import HandS.HeadHook2
import KE.KStateDown
set_option Elab.async false
set_option linter.all false
set_option maxRecDepth 100000
set_option maxHeartbeats 4000000
/-! TupN: tuples whose object is known to have no dict of its own: they are tracked as locked ones. -/
namespace Sm
open PySem PySem.Spec PyProof.Rows L2
/-- a tuple's object as it is made -/
def tO (arr : Array Value) : Obj := { cls := .type "tuple", data := .seq arr }
def bare (o : Obj) : Prop := o.dict = none
/-- at a: a tuple without a dict of its own -/
def RdT (H : Hp) (a : Addr) (xs : List V) : Prop := ∃ o, bare o ∧ H a = some (.frz o (.tup xs))
theorem RdT.rd {H : Hp} {a : Addr} {xs : List V} (h : RdT H a xs) : Rd H a (.tup xs) := let ⟨o, _, e⟩ := h; .inr ⟨o, e⟩
theorem RdT.sq {K : PySem.W.Frag} {H : Hp} {a : Addr} {xs : List V} (h : RdT H a xs) : SqT K H a xs := .inl h.rd
theorem RdT.same {H H' : Hp} {a : Addr} {xs : List V} (e : Same H H') (h : RdT H a xs) : RdT H' a xs := let ⟨o, b, z⟩ := h; ⟨o, b, e _ _ z⟩
/-- what a new tuple asks of what follows -/
abbrev NewT (H : Hp) (xs : List V) (Q : VK) : Prop := ∀ p o, bare o → H p = none → Q (.ref p) (upd H p (.frz o (.tup xs)))
section
variable {X : Cx} {pins : List (Addr × Obj)} {σ : L2.St} {H : Hp} {s : Shared}
theorem okT {P : Program} {w : World} {H : Hp} {h : Heap} {p : Addr} {xs : List V} {its : List Value} (z : xs.length ≤ sizeLine) (r : Vals xs its) (e : h.get? p = some (tO its.toArray)) : ObjOk P w H h p (.frz (tO its.toArray) (.tup xs)) :=
  ⟨e, z, its, r, ⟨_, e, rfl, _, rfl⟩⟩
theorem laidT {xs : List V} {its : List Value} {Q : VK} {h' : Heap} {t' : Nat} (I : Inv X pins σ H { s with heap := h', toks := t' }) (z : xs.length ≤ sizeLine) (r : Vals xs its) (q : NewT H xs Q) :
    EP X pins σ Q (.ref h'.objs.size) { s with heap := h'.push (tO its.toArray), toks := t' } :=
  ⟨.ref h'.objs.size, _, I.laid (t' := t') (o := .frz (tO its.toArray) (.tup xs)) (fun b u e => Heap.get?_push_of_some _ e) (Nat.le_refl _) (okT z r (Heap.get?_push_size _ rfl)), rfl, q _ _ rfl (I.hok.fresh (Nat.le_refl _))⟩
/-! ### displays, tuple(..) -/
def tTupN (t : TA) : TE := fun σ H Q => t σ H fun xs H1 => xs.length ≤ sizeLine ∧ NewT H1 xs Q
theorem pe_tupN {es : List Expr} {t : TA} {pos : Pos} {x1} (h : PA X es t) : PE X (.Tuple es x1 pos) (tTupN t) := by
  refine ⟨fun pins s σ H Q I hq => wpAny_Tuple_spliced (thn (h.run pos pins s σ H _ I hq) fun us s1 ⟨xs, H1, I1, r, z, q⟩ => ⟨by rw [← r.length]; exact z, ?_⟩)⟩
  exact laidT (t' := s1.toks) (h' := s1.heap) (s := s1) I1 z r q
theorem call_tupleN : CallR X (.type "tuple") (fun xs H Q => ∃ p ys, xs = [.ref p] ∧ ((SqL X.K H p ys ∧ NewT H ys Q) ∨ (SqT X.K H p ys ∧ Q (.ref p) H))) := by
  intro pins s σ H xs us Q I r h
  obtain ⟨p, ys, rfl, h⟩ := h
  obtain ⟨u, rfl, rx⟩ := vals1 r
  cases rx
  rcases h with ⟨hq, q⟩ | ⟨hq, q⟩
  · obtain ⟨its, rv, pl, z⟩ := I.list hq
    have le := rv.length
    refine call_tuple_list pl.isList (fun h' kp => ?_) (by rw [List.size_toArray]; omega)
    exact laidT (t' := s.toks) (h' := h') (I.kept (t' := s.toks) kp) z rv q
  · obtain ⟨its, rv, pl, z⟩ := I.tuple hq
    exact call_tuple_same pl ⟨.ref p, H, I, rfl, q⟩
/-! ### slices, sums, repeats -/
def rSlN (K : PySem.W.Frag) : V → Option Int → Option Int → Hp → VK → Prop := fun x lo hi H Q => ∃ a xs, x = .ref a ∧ SqT K H a xs ∧
  (HT.sIx xs.length 0 lo = 0 ∧ HT.sIx xs.length xs.length hi = xs.length → Q (.ref a) H) ∧ (¬ (HT.sIx xs.length 0 lo = 0 ∧ HT.sIx xs.length xs.length hi = xs.length) → NewT H (cutV xs lo hi) Q)
theorem sl_tupN : SlR X (rSlN X.K) := by
  intro pins s σ H x v vl vu lo hi sl Q I rx hs pl pu h
  obtain ⟨a, xs, rfl, hx, q1, q2⟩ := h
  cases rx
  obtain ⟨its, rv, ht, z⟩ := I.tuple hx
  have le : its.toArray.size = xs.length := by rw [List.size_toArray]; exact rv.length.symm
  refine ⟨"tuple", _, PyProof.Rows.slot_tuple_getitem.lookup, ht.typeIs, ?_⟩
  by_cases hw : HT.sIx xs.length 0 lo = 0 ∧ HT.sIx xs.length xs.length hi = xs.length
  · exact getItem_tuple_whole ht hs pl pu (by rw [le]; exact hw) ⟨.ref a, H, I, rfl, q1 hw⟩
  · refine HT.getItem_tuple_cut ht hs pl pu (by rw [le]; exact hw) ?_ (by rw [le]; exact z)
    rw [le]
    exact laidT (t' := s.toks) (h' := s.heap) I (Nat.le_trans (cutV_length xs lo hi) z) ((rv.drop (HT.sIx xs.length 0 lo)).take (HT.sIx xs.length xs.length hi - HT.sIx xs.length 0 lo)) (q2 hw)
def rCatN (K : PySem.W.Frag) : R2 := fun x y H Q => ∃ a b xs ys, x = .ref a ∧ y = .ref b ∧ SqT K H a xs ∧ SqT K H b ys ∧ xs.length + ys.length ≤ sizeLine ∧
  (xs = [] → Q (.ref b) H) ∧ (xs ≠ [] → ys = [] → Q (.ref a) H) ∧ (xs ≠ [] → ys ≠ [] → NewT H (xs ++ ys) Q)
theorem op_catN : OpR X (binaryOp .Add) (rCatN X.K) := by
  intro pins s σ H x y v u Q I rx ry h
  obtain ⟨a, b, xs, ys, rfl, rfl, ha, hb, z, q0, q1, q2⟩ := h
  cases rx
  cases ry
  obtain ⟨its, rv, p1, _⟩ := I.tuple ha
  obtain ⟨jts, rw', p2, _⟩ := I.tuple hb
  by_cases hx : xs = []
  · subst hx
    cases rv
    exact cat_tup0 p1 p2 ⟨.ref b, H, I, rfl, q0 rfl⟩
  · refine HT.cat_tup p1 p2 (fun e => hx (rv.nil_iff.mp e)) (fun e => ⟨.ref a, H, I, rfl, q1 hx (rw'.nil_iff.mp e)⟩) (fun e => ?_) (by rw [← rv.length, ← rw'.length]; exact z)
    exact laidT (t' := s.toks) (h' := s.heap) I (by rw [List.length_append]; exact z) (rv.append rw') (q2 hx fun w => e (rw'.nil_iff.mpr w))
def rRepN (K : PySem.W.Frag) : R2 := fun x y H Q => ∃ l k xs, x = .ref l ∧ y = .int k ∧ SqT K H l xs ∧ xs ≠ [] ∧ 2 ≤ k ∧ k ≤ 1000 ∧ xs.length ≤ 1000 ∧ NewT H (List.replicate k.toNat xs).flatten Q
theorem op_repN : OpR X (binaryOp .Mult) (rRepN X.K) := by
  intro pins st σ H x y v u Q I rx ry h
  obtain ⟨l, k, xs, rfl, rfl, hT, hne, k1, k2, hz, q⟩ := h
  cases rx
  obtain ⟨t, rfl⟩ := ry
  obtain ⟨its, rv, ⟨⟨cls, dd, data, sl⟩, ho, hc, n, hd⟩, _⟩ := I.tuple hT
  simp only at hc hd
  subst hc hd
  have le : its.length = xs.length := rv.length.symm
  have ie : its.toArray.isEmpty = false := by
    cases its with
    | nil => exact absurd (List.eq_nil_of_length_eq_zero le.symm) hne
    | cons a b => rfl
  have ib : ((its.toArray.size : Nat) : Int) * k ≤ 1000000 := by
    rw [List.size_toArray, le]
    have := Int.mul_le_mul_of_nonneg_right (a := ((xs.length : Nat) : Int)) (b := 1000) (c := k) (by omega) (by omega)
    omega
  have il : k.toNat * xs.length ≤ 1000 * 1000 := Nat.mul_le_mul (by omega) hz
  have fl : (List.replicate k.toNat its).flatten.length ≤ sizeLine := by rw [PyProof.Rows.lm_len_rep_flat, le, sizeLine_eq]; omega
  have d0 : (decide (k < -(2 ^ 63)) || decide (k ≥ 2 ^ 63)) = false := by rw [decide_eq_false (by omega), decide_eq_false (by omega)]; rfl
  have d1 : (its.toArray.isEmpty || k == 1) = false := by rw [ie, Bool.false_or]; exact beq_eq_false_iff_ne.mpr (by omega)
  have d2 : (decide (k ≤ 0) || its.toArray.isEmpty) = false := by rw [ie, Bool.or_false]; exact decide_eq_false (by omega)
  have d4 : Builtin.Tuple.tupleTooMany (((its.toArray.size : Nat) : Int) * k) = false := by
    unfold Builtin.Tuple.tupleTooMany
    rw [sizeLine_eq]; exact decide_eq_false (by omega)
  refine wpAny_binaryOp_repeat_ref (T := "tuple") (U := "int") (by decide) ⟨_, ho, rfl⟩ (fun s' => typeIs_int s' k t) noFill_tuple_mul F.fills_int_mul F.slot_int_rmul repeat_tuple F.slot_int_index.lookup
    (call_meets F.slot_int_rmul (typeIs_int st k t) F.entry_int_rmul (F.args_int_rmul_2 _ _) (int_rmul_tuple k t l its.toArray n dd sl)
      ⟨ho, rfl, ⟨_, ho, rfl⟩, call_meets F.slot_tuple_mul ⟨_, ho, rfl⟩ F.entry_tuple_mul (F.args_tuple_mul_2 _ _) (tuple_mulW l its.toArray n dd sl k t d0 d1 d2 (by omega) d4 (by rw [size_rep, List.size_toArray]; exact fl)) ⟨ho, ?_⟩⟩)
  rw [size_rep]
  exact laidT (t' := st.toks) (h' := st.heap) I (by rw [PyProof.Rows.lm_len_rep_flat, sizeLine_eq]; omega) (rv.rep k.toNat) q
/-! ### tuple(range(..)) -/
def tTupRgN (te : L2.St → Hp → (Int → Int → Hp → Prop) → Prop) : TE := fun σ H Q => te σ H fun a b H1 => RgOk a b ∧ NewT H1 (rgV a b) Q
theorem pe_tupRgN {e : Expr} {te : L2.St → Hp → (Int → Int → Hp → Prop) → Prop} {p pos : Pos} (hc : X.calm = true) (hg : Gl X "tuple") (hm : X.mg "tuple" = none) (he : PRg X e te) (na : starEach [e] X.env = (false, eval e X.env) :: starEach [] X.env := by rfl) : PE X (.Call (.Name "tuple" p) [e] [] pos) (tTupRgN te) := by
  refine ⟨fun pins st σ H Q I q0 => Call_ (ld_blt I hg hm boot_tuple (PyProof.Rows.callWith_type1 (args_cons (thn (he pins st σ H _ I q0) fun x s1 ⟨r, a, b, t, u, v, H1, ex, hr, I1, ok, q⟩ => args_nil ?_) na) na))⟩
  subst ex
  obtain ⟨b1, b2, b3, b4, b5⟩ := ok
  refine call_tuple_range (n := (b - a).toNat) (I1.ok.hd hc) hr (small_one b1 b2 b3 b4) (rangeSize_nat a b) b5 fun h' tk acc hk hi => ?_
  have := laidT (its := acc.toList) (t' := tk) (h' := h') (s := s1) (I1.kept hk) (by rw [rgV_length, sizeLine_eq]; omega) (vals_rg hi) q
  rw [Array.toArray_toList] at this
  exact this
end
/-! ### pairs of enumerate, of a dict's items -/
def IteN (K : PySem.W.Frag) (a : Addr) : It :=
  ⟨(Ite K a).go, fun i H v H' => ∃ T x o, v = .ref T ∧ bare o ∧ H T = none ∧ H' = upd H T (.frz o (.tup [.int (i : Nat), x])) ∧ ∀ xs, SqL K H a xs → xs[i]? = some x, (Ite K a).stop⟩
def ItiN (d : Addr) (ob : Obj) (kvs : List (Key × V)) : It :=
  ⟨(Iti d ob kvs).go, fun i H x H' => ∃ T k v o, kvs[i]? = some (k, v) ∧ x = .ref T ∧ bare o ∧ H T = none ∧ H' = upd H T (.frz o (.tup [kV k, v])), (Iti d ob kvs).stop⟩
section
variable {P : Program} {w : World} {K : PySem.W.Frag} {elts : List Expr} {kk : Nat} {tpos : Pos}
theorem turn_enumN (a e it : Addr) : Turn P w K (.Tuple elts kk tpos) (IteN K a) [e, it] e (fun i h => (∃ old, IsEnum h e it ((i : Nat) : Int) old) ∧ h.IsListIter it a i ∧ e ≠ it) where
  mem := (turn_enum (P := P) (w := w) (K := K) (elts := elts) (kk := kk) (tpos := tpos) a e it).mem
  obj := (turn_enum (P := P) (w := w) (K := K) (elts := elts) (kk := kk) (tpos := tpos) a e it).obj
  keep := (turn_enum (P := P) (w := w) (K := K) (elts := elts) (kk := kk) (tpos := tpos) a e it).keep
  done := (turn_enum (P := P) (w := w) (K := K) (elts := elts) (kk := kk) (tpos := tpos) a e it).done
  self := (turn_enum (P := P) (w := w) (K := K) (elts := elts) (kk := kk) (tpos := tpos) a e it).self
  item := by
    intro X hP hw hK hc i pins s σ H E I hf st hg
    subst hP hw hK
    obtain ⟨⟨old, he⟩, hit, hne⟩ := st
    obtain ⟨xs, x, hq, hx⟩ := hg
    obtain ⟨its, rv, p, _⟩ := I.list hq
    obtain ⟨u, hu, ru⟩ := rv.get hx
    have l1 : e < s.heap.objs.size := Heap.lt_size he
    have l2 : it < s.heap.objs.size := by obtain ⟨_, z, _⟩ := hit; exact Heap.lt_size z
    refine wpAny_pyNext_enum_item he hit p.isList (x := u) (by simpa using hu) hne fun h' ho hit' hT hsz hk => ?_
    refine ⟨_, rfl, wpAny_letOwnedTupleGo_enum (s := { s with heap := h', toks := s.toks + 1 }) ho fun h2 he' sb => ?_⟩
    have g2 : h2.get? s.heap.objs.size = some (tO [Value.int i s.toks, u].toArray) := (sb.2 _ (Nat.ne_of_gt l1)).trans hT
    have I1 : Inv X pins σ (upd H s.heap.objs.size (.frz (tO [Value.int i s.toks, u].toArray) (.tup [.int (i : Nat), x]))) { s with heap := h2, toks := s.toks + 1 } :=
      I.turnedNew (ch := [e, it]) (fun b ob hb z => (sb.2 b (fun y => hb (by simp [y]))).trans (hk b ob (fun y => hb (by simp [y])) (fun y => hb (by simp [y])) z)) hf (Nat.le_refl _)
        (okT (by show 2 ≤ sizeLine; decide) (.cons ⟨_, rfl⟩ (.cons ru .nil)) g2)
    refine ⟨.ref s.heap.objs.size, _, I1, rfl, ⟨_, x, tO [Value.int i s.toks, u].toArray, rfl, (show (tO [Value.int i s.toks, u].toArray).dict = none from rfl), I.hok.fresh (Nat.le_refl _), rfl, fun ys hy => by rw [I.list_inj hy hq]; exact hx⟩, ⟨⟨u, ?_⟩, hit'.at fun o z => (sb.2 it (Ne.symm hne)).trans z, hne⟩, fun b hb => ?_⟩
    · have e1 : ((i + 1 : Nat) : Int) = (i : Int) + 1 := by omega
      rw [e1]; exact he'
    · have lb : b < s.heap.objs.size := by
        have z : b = e ∨ b = it := by simpa using hb
        rcases z with z | z <;> rw [z] <;> assumption
      rw [upd_ne (Nat.ne_of_lt lb)]
      exact (hf b hb).1
theorem turn_itemsN {d : Addr} {ob : Obj} {es : Array DictEntry} {ep : Nat} {kvs : List (Key × V)} (it : Addr) (hod : ob.data = .dict es ep) :
    Turn P w K (.Tuple elts kk tpos) (ItiN d ob kvs) [it] it (fun i h => ∃ ok ov, IsItemIter h it d i kvs.length ep ok ov) where
  mem := (turn_items (P := P) (w := w) (K := K) (kvs := kvs) (d := d) (elts := elts) (kk := kk) (tpos := tpos) it hod).mem
  obj := (turn_items (P := P) (w := w) (K := K) (kvs := kvs) (d := d) (elts := elts) (kk := kk) (tpos := tpos) it hod).obj
  keep := (turn_items (P := P) (w := w) (K := K) (kvs := kvs) (d := d) (elts := elts) (kk := kk) (tpos := tpos) it hod).keep
  done := (turn_items (P := P) (w := w) (K := K) (kvs := kvs) (d := d) (elts := elts) (kk := kk) (tpos := tpos) it hod).done
  self := (turn_items (P := P) (w := w) (K := K) (kvs := kvs) (d := d) (elts := elts) (kk := kk) (tpos := tpos) it hod).self
  item := by
    intro X hP hw hK hc i pins s σ H E I hf st hg
    subst hP hw hK
    obtain ⟨hd, hi⟩ := hg
    obtain ⟨hs, hgd, hx, fs, fp, vs, hdt, hsz, kv, hm⟩ := I.frzK hd
    obtain ⟨rfl, rfl⟩ := dict_ep hod hdt
    obtain ⟨⟨k, v⟩, hkv⟩ : ∃ p, kvs[i]? = some p := ⟨kvs[i], List.getElem?_eq_getElem hi⟩
    obtain ⟨u, hu, ru⟩ := kv_get kv hkv
    have el : kvs.length = vs.length := Paired.length kv
    obtain ⟨ok, ov, he⟩ := st
    rw [el] at he
    have lt : it < s.heap.objs.size := Heap.lt_size he
    refine wpAny_pyNext_items_item he hm hu fun key h' hkey ho hT hz hk => ?_
    refine ⟨_, rfl, wpAny_letOwnedTupleGo_items (s := { s with heap := h' }) ho fun h2 he' sb => ?_⟩
    have g2 : h2.get? s.heap.objs.size = some (tO [key, u].toArray) := (sb.2 _ (Nat.ne_of_gt lt)).trans hT
    have I1 : Inv X pins σ (upd H s.heap.objs.size (.frz (tO [key, u].toArray) (.tup [kV k, v]))) { s with heap := h2 } :=
      I.turnedNew (t' := s.toks) (ch := [it]) (fun b ob hb z => (sb.2 b (by simpa using hb)).trans (hk b ob (by simpa using hb) z)) hf (Nat.le_refl _)
        (okT (by show 2 ≤ sizeLine; decide) (.cons (relV_key (show keyIs k key = true from hkey)) (.cons ru .nil)) g2)
    refine ⟨.ref s.heap.objs.size, _, I1, rfl, ⟨_, k, v, tO [key, u].toArray, hkv, rfl, (show (tO [key, u].toArray).dict = none from rfl), I.hok.fresh (Nat.le_refl _), rfl⟩, ⟨key, u, ?_⟩, fun b hb => ?_⟩
    · rw [el]; exact he'
    · have z : b = it := by simpa using hb
      rw [z, upd_ne (Nat.ne_of_lt lt)]
      exact (hf it (by simp)).1
/-- the pairs of a locked dict -/
def iItemsN (td : TE) : TI := fun σ H R => td σ H fun x H1 => ∃ d ob kvs, x = .ref d ∧ H1 d = some (.frz ob (.dK kvs)) ∧ R (ItiN d ob kvs) H1
theorem pi_itemsN {X : Cx} {e : Expr} {td : TE} {apos cpos : Pos} (he : PE X e td) (hbase : attributeBase e "items" X.env (eval e X.env) = eval e X.env := by rfl) (hline : (apos.endLine == cpos.line) = true := by rfl) :
    PI X (.Tuple elts kk tpos) (.Call (.Attribute e "items" apos) [] [] cpos) (iItemsN td) := by
  refine ⟨fun pins st σ H R I q0 => wpAny_Call_method (T := "dict") (id := "dict.items") hbase rfl hline F.plainAttrs_dict F.slot_dict_items F.type_dict_items (thn (he.run pins st σ H _ I q0) fun u s1 ⟨x, H1, I1, rx, d, ob, kvs, ex, hd, q⟩ => ?_)⟩
  subst ex
  obtain rfl : u = Value.ref d := rx
  obtain ⟨hs, hgd, hx, fs, fp, vs, hdt, hsz, kv, hm⟩ := I1.frzK hd
  have el : kvs.length = vs.length := Paired.length kv
  have I2 : Inv X pins σ H1 { s1 with heap := s1.heap.push { cls := .type "dict_items", data := .fields #[.ref d] } } := I1.kept (t' := s1.toks) fun b o z => Heap.get?_push_of_some _ z
  have go : wpAny (model X.prog X.w) X.A (pyIter (.ref s1.heap.objs.size)) (PIE X pins σ (.Tuple elts kk tpos) R) X.xe { s1 with heap := s1.heap.push { cls := .type "dict_items", data := .fields #[.ref d] } } := by
    refine wpAny_pyIter_items (d := d) (knd := mixKind X.prog X.w) ⟨_, Heap.get?_push_size _ rfl, rfl, rfl⟩ (hm.push _) (pi_one (tk := s1.toks) I2 _ (turn_itemsN _ hdt) ⟨.none, .none, ?_⟩ q)
    rw [el]; exact Heap.get?_push_size _ rfl
  refine ⟨hm.dictOf.typeIs, hm.dictOf.mapOf.noDict, ?_⟩
  show wpAny _ _ (callWith cpos (.builtin "dict.items") [.ref d] [] []) _ X.xe s1
  exact method_meetsIn F.slot_dict_items F.entry_dict_items rfl (PySem.evalArgs_none ⟨rfl, hm.dictOf.typeIs, F.args_dict_items_1 _, _, meets_dict_items (mixKind X.prog X.w) d hs, ⟨vs, hm.dictOf⟩, go⟩)
end
end Sm

/-! Sim0: data, mutable contents, environments, what stands where (Own, Wld). -/
namespace Sm
open PySem PySem.Spec PyProof.Rows L2

/-- owned data: lists and dicts that may be changed, within tuples and lists -/
inductive Tr where
  | d (d : PyData)
  | ls (xs : List Tr)
  | tp (xs : List Tr)
  | dk (ks : List Key) (xs : List Tr)
/-- what a slot or a field may hold: data that stands still, a raw value, a list or a dict that is owned (may be changed), nothing -/
inductive Fl where
  | tr (t : Tr)
  | val (d : PyData)
  | raw (v : V)
  | lst (ds : List PyData)
  | dct (kvs : List (Key × PyData))
  | fact (p : Addr → Hp → HO → Prop)
  | hole
inductive M where
  | fl (x : Fl)
  | ins (C : Addr) (fs : List (Str × Fl))
@[reducible] def M.val (d : PyData) : M := .fl (.val d)
@[reducible] def M.raw (v : V) : M := .fl (.raw v)
@[reducible] def M.lst (ds : List PyData) : M := .fl (.lst ds)
@[reducible] def M.dct (kvs : List (Key × PyData)) : M := .fl (.dct kvs)
@[reducible] def M.hole : M := .fl .hole

mutual
/-- data that is to be read in H (lists and tuples that are tracked) -/
inductive Dp (K : PySem.W.Frag) (H : Hp) : V → PyData → Prop
  | non : Dp K H .non .none
  | bl (b : Bool) : Dp K H (.bl b) (.bool b)
  | int (i : Int) : Dp K H (.int i) (.int i)
  | str (x : Str) : Dp K H (.str x) (.str x)
  | lst {a : Addr} {xs : List V} {ds : List PyData} : SqL K H a xs → DpAll K H xs ds → Dp K H (.ref a) (.list ds)
  | tup {a : Addr} {xs : List V} {ds : List PyData} : RdT H a xs → DpAll K H xs ds → Dp K H (.ref a) (.tuple ds)
inductive DpAll (K : PySem.W.Frag) (H : Hp) : List V → List PyData → Prop
  | nil : DpAll K H [] []
  | cons {v : V} {vs : List V} {d : PyData} {ds : List PyData} : Dp K H v d → DpAll K H vs ds → DpAll K H (v :: vs) (d :: ds)
end
mutual
theorem Dp.lib {K : PySem.W.Frag} {H : Hp} : ∀ {v : V} {d : PyData}, Dp K H v d → L2.Dp K H v d
  | _, _, .non => .non
  | _, _, .bl b => .bl b
  | _, _, .int i => .int i
  | _, _, .str x => .str x
  | _, _, .lst h a => .lst h (DpAll.lib a)
  | _, _, .tup h a => .tup (.inl h.rd) (DpAll.lib a)
theorem DpAll.lib {K : PySem.W.Frag} {H : Hp} : ∀ {v : List V} {d : List PyData}, DpAll K H v d → L2.DpAll K H v d
  | _, _, .nil => .nil
  | _, _, .cons h t => .cons (Dp.lib h) (DpAll.lib t)
end
section
variable (K : PySem.W.Frag)
def KD (Hb : Hp) : List (Key × V) → List (Key × PyData) → Prop := Paired fun (p : Key × V) (q : Key × PyData) => p.1 = q.1 ∧ Dp K Hb p.2 q.2
mutual
inductive RT (K : PySem.W.Frag) (Hb H : Hp) : V → Tr → List Addr → Prop
  | d {v : V} {d : PyData} : Dp K Hb v d → RT K Hb H v (.d d) []
  | ls {a : Addr} {ws : List V} {xs : List Tr} {g : List Addr} : Hb a = none → H a = some (.lst ws) → RTs K Hb H ws xs g → a ∉ g → RT K Hb H (.ref a) (.ls xs) (a :: g)
  | tp {a : Addr} {ws : List V} {xs : List Tr} {g : List Addr} : RdT Hb a ws → RTs K Hb H ws xs g → RT K Hb H (.ref a) (.tp xs) g
  | dk {a : Addr} {ws : List (Key × V)} {ks : List Key} {xs : List Tr} {g : List Addr} : Hb a = none → H a = some (.dK ws) → ws.map Prod.fst = ks → RTs K Hb H (ws.map Prod.snd) xs g → a ∉ g → RT K Hb H (.ref a) (.dk ks xs) (a :: g)
inductive RTs (K : PySem.W.Frag) (Hb H : Hp) : List V → List Tr → List Addr → Prop
  | nil : RTs K Hb H [] [] []
  | cons {v : V} {x : Tr} {ws : List V} {xs : List Tr} {f g : List Addr} : RT K Hb H v x f → RTs K Hb H ws xs g → (∀ p ∈ f, p ∉ g) → RTs K Hb H (v :: ws) (x :: xs) (f ++ g)
end
def RFl (Hb H : Hp) (v : V) : Fl → List Addr → Prop
  | .tr t, f => RT K Hb H v t f
  | .val d, f => f = [] ∧ Dp K Hb v d
  | .raw w, f => f = [] ∧ v = w
  | .lst ds, f => ∃ a vs, v = .ref a ∧ f = [a] ∧ Hb a = none ∧ H a = some (.lst vs) ∧ DpAll K Hb vs ds
  | .dct kvs, f => ∃ a ws, v = .ref a ∧ f = [a] ∧ Hb a = none ∧ H a = some (.dK ws) ∧ KD K Hb ws kvs
  | .fact p, f => ∃ a u, v = .ref a ∧ f = [a] ∧ Hb a = none ∧ H a = some u ∧ p a Hb u ∧ ∀ H1 H2, Same H1 H2 → p a H1 u → p a H2 u
  | .hole, f => f = []
inductive RFs (Hb H : Hp) : List (Str × V) → List (Str × Fl) → List Addr → Prop
  | nil : RFs Hb H [] [] []
  | cons {n : Str} {v : V} {x : Fl} {ws : List (Str × V)} {fs : List (Str × Fl)} {f g : List Addr} : RFl K Hb H v x f → RFs Hb H ws fs g → (∀ p ∈ f, p ∉ g) → RFs Hb H ((n, v) :: ws) ((n, x) :: fs) (f ++ g)
def RM (Hb H : Hp) (v : V) : M → List Addr → Prop
  | .fl x, f => RFl K Hb H v x f
  | .ins C fs, f => ∃ a dx ws g, v = .ref a ∧ f = a :: g ∧ Hb a = none ∧ H a = some (.ins C dx ws) ∧ RFs K Hb H ws fs g ∧ a ∉ g
def RO (Hb H : Hp) : Option V → M → List Addr → Prop
  | some v, m, f => RM K Hb H v m f
  | none, .fl .hole, f => f = []
  | none, _, _ => False
abbrev Ent := Option V × M
inductive OwnF (Hb H : Hp) : List Ent → List Addr → Prop
  | nil : OwnF Hb H [] []
  | cons {e : Ent} {es : List Ent} {f g : List Addr} : RO K Hb H e.1 e.2 f → OwnF Hb H es g → (∀ p ∈ f, p ∉ g) → OwnF Hb H (e :: es) (f ++ g)
/-- all entries stand, apart from one another; Hb: what stands still -/
def Own (Hb H : Hp) (es : List Ent) : Prop := Same Hb H ∧ ∃ F, OwnF K Hb H es F
end

section
variable {K : PySem.W.Frag} {Hb H Hb' H' : Hp}
theorem OwnF.perm {es es' : List Ent} (p : es.Perm es') : ∀ {F}, OwnF K Hb H es F → ∃ F', OwnF K Hb H es' F' ∧ ∀ q, q ∈ F' ↔ q ∈ F := by
  induction p with
  | nil => exact fun h => ⟨_, h, fun _ => Iff.rfl⟩
  | cons x _ ih =>
    intro F h
    cases h with
    | cons r t d =>
      obtain ⟨G, hG, e⟩ := ih t
      exact ⟨_, .cons r hG fun p hp hq => d p hp ((e p).mp hq), fun q => by simp [e q]⟩
  | swap x y l =>
    intro F h
    cases h with
    | cons r t d =>
      cases t with
      | cons r2 t2 d2 =>
        refine ⟨_, .cons r2 (.cons r t2 fun p hp hq => d p hp (List.mem_append_right _ hq)) fun p hp hq => ?_, fun q => ?_⟩
        · rcases List.mem_append.mp hq with h1 | h1
          · exact d p h1 (List.mem_append_left _ hp)
          · exact d2 p hp h1
        · simp only [List.mem_append]
          constructor
          · rintro (h | h | h)
            · exact .inr (.inl h)
            · exact .inl h
            · exact .inr (.inr h)
          · rintro (h | h | h)
            · exact .inr (.inl h)
            · exact .inl h
            · exact .inr (.inr h)
  | trans _ _ ih1 ih2 =>
    intro F h
    obtain ⟨G, hG, e⟩ := ih1 h
    obtain ⟨G2, hG2, e2⟩ := ih2 hG
    exact ⟨_, hG2, fun q => (e2 q).trans (e q)⟩
theorem Own.perm {es es' : List Ent} (h : Own K Hb H es) (p : es.Perm es') : Own K Hb H es' := by
  obtain ⟨s, F, h⟩ := h
  obtain ⟨G, hG, _⟩ := OwnF.perm p h
  exact ⟨s, G, hG⟩
theorem Own.tail {e : Ent} {es : List Ent} (h : Own K Hb H (e :: es)) : Own K Hb H es := by
  obtain ⟨s, F, h⟩ := h
  cases h with
  | cons r t d => exact ⟨s, _, t⟩
theorem Own.drop1 {es fr : List Ent} (h : Own K Hb H (es ++ fr)) : Own K Hb H fr := by
  induction es with
  | nil => exact h
  | cons e es ih => exact ih h.tail
theorem Own.head {e : Ent} {es : List Ent} (h : Own K Hb H (e :: es)) : ∃ f, RO K Hb H e.1 e.2 f := by
  obtain ⟨s, F, h⟩ := h
  cases h with
  | cons r t d => exact ⟨_, r⟩
theorem Own.mem {e : Ent} {es : List Ent} (h : Own K Hb H es) (m : e ∈ es) : ∃ f, RO K Hb H e.1 e.2 f := by
  obtain ⟨l1, l2, rfl⟩ := List.append_of_mem m
  exact (h.perm List.perm_middle).head
theorem Own.nil (s : Same Hb H) : Own K Hb H [] := ⟨s, _, .nil⟩
/-- an entry without a footprint -/
theorem Own.add0 {e : Ent} {es : List Ent} (h : Own K Hb H es) (r : RO K Hb H e.1 e.2 []) : Own K Hb H (e :: es) := by
  obtain ⟨s, F, h⟩ := h
  exact ⟨s, _, .cons r h fun p hp => by cases hp⟩
theorem Own.val {v : V} {d : PyData} {es : List Ent} (h : Own K Hb H es) (r : Dp K Hb v d) : Own K Hb H ((some v, .val d) :: es) := h.add0 ⟨rfl, r⟩
theorem Own.raw {v : V} {es : List Ent} (h : Own K Hb H es) : Own K Hb H ((some v, .raw v) :: es) := h.add0 ⟨rfl, rfl⟩
theorem Own.hole {o : Option V} {es : List Ent} (h : Own K Hb H es) : Own K Hb H ((o, .hole) :: es) := h.add0 (by cases o <;> exact rfl)

/-! ### data stand still -/
theorem Rd.same {a : Addr} {u : HO} (e : Same H H') (h : Rd H a u) : Rd H' a u := by
  rcases h with h | ⟨o, h⟩
  · exact .inl (e _ _ h)
  · exact .inr ⟨o, e _ _ h⟩
theorem SqL.same {a : Addr} {xs : List V} (e : Same H H') (h : SqL K H a xs) : SqL K H' a xs := h.elim (fun z => .inl (Rd.same e z)) .inr
mutual
theorem Dp.same (e : Same H H') : ∀ {v : V} {d : PyData}, Dp K H v d → Dp K H' v d
  | _, _, .non => .non
  | _, _, .bl b => .bl b
  | _, _, .int i => .int i
  | _, _, .str x => .str x
  | _, _, .lst h a => .lst (SqL.same e h) (DpAll.same e a)
  | _, _, .tup h a => .tup (h.same e) (DpAll.same e a)
theorem DpAll.same (e : Same H H') : ∀ {v : List V} {d : List PyData}, DpAll K H v d → DpAll K H' v d
  | _, _, .nil => .nil
  | _, _, .cons h t => .cons (Dp.same e h) (DpAll.same e t)
end
theorem KD.same {ws : List (Key × V)} {kvs : List (Key × PyData)} (e : Same H H') (h : KD K H ws kvs) : KD K H' ws kvs := Paired.mapP h fun _ _ z => ⟨z.1, Dp.same e z.2⟩

/-- Hb and H grow to Hb' and H'; nothing that was is gone -/
structure Grow (Hb H Hb' H' : Hp) : Prop where
  bb : Same Hb Hb'
  hh : Same H H'
  sub : Same Hb' H'
  new : ∀ a, Hb a = none → Hb' a ≠ none → H a = none
theorem Grow.refl (s : Same Hb H) : Grow Hb H Hb H := ⟨fun _ _ h => h, fun _ _ h => h, s, fun _ h1 h2 => absurd h1 h2⟩
theorem Grow.free (g : Grow Hb H Hb' H') {a : Addr} {o : HO} (h1 : Hb a = none) (h2 : H a = some o) : Hb' a = none := by
  cases e : Hb' a with
  | none => rfl
  | some u =>
    have := g.new a h1 (by rw [e]; simp)
    rw [this] at h2; cases h2
mutual
theorem RT.grow (g : Grow Hb H Hb' H') : ∀ {v : V} {t : Tr} {f : List Addr}, RT K Hb H v t f → RT K Hb' H' v t f
  | _, _, _, .d r => .d (Dp.same g.bb r)
  | _, _, _, .ls h1 h2 h3 h4 => .ls (g.free h1 h2) (g.hh _ _ h2) (RTs.grow g h3) h4
  | _, _, _, .tp h1 h2 => .tp (h1.same g.bb) (RTs.grow g h2)
  | _, _, _, .dk h1 h2 h3 h4 h5 => .dk (g.free h1 h2) (g.hh _ _ h2) h3 (RTs.grow g h4) h5
theorem RTs.grow (g : Grow Hb H Hb' H') : ∀ {v : List V} {t : List Tr} {f : List Addr}, RTs K Hb H v t f → RTs K Hb' H' v t f
  | _, _, _, .nil => .nil
  | _, _, _, .cons r t d => .cons (RT.grow g r) (RTs.grow g t) d
end
theorem RFl.grow (g : Grow Hb H Hb' H') {v : V} {x : Fl} {f : List Addr} (h : RFl K Hb H v x f) : RFl K Hb' H' v x f := by
  cases x with
  | tr t => exact RT.grow g h
  | val d => exact ⟨h.1, Dp.same g.bb h.2⟩
  | raw w => exact h
  | lst ds =>
    obtain ⟨a, vs, e1, e2, e3, e4, e5⟩ := h
    exact ⟨a, vs, e1, e2, g.free e3 e4, g.hh _ _ e4, DpAll.same g.bb e5⟩
  | dct ds =>
    obtain ⟨a, vs, e1, e2, e3, e4, e5⟩ := h
    exact ⟨a, vs, e1, e2, g.free e3 e4, g.hh _ _ e4, KD.same g.bb e5⟩
  | fact p =>
    obtain ⟨a, u, e1, e2, e3, e4, e5, e6⟩ := h
    exact ⟨a, u, e1, e2, g.free e3 e4, g.hh _ _ e4, e6 _ _ g.bb e5, e6⟩
  | hole => exact h
theorem RFs.grow (g : Grow Hb H Hb' H') {ws : List (Str × V)} {fs : List (Str × Fl)} {f : List Addr} (h : RFs K Hb H ws fs f) : RFs K Hb' H' ws fs f := by
  induction h with
  | nil => exact .nil
  | cons r _ d ih => exact .cons (r.grow g) ih d
theorem RM.grow (g : Grow Hb H Hb' H') {v : V} {m : M} {f : List Addr} (h : RM K Hb H v m f) : RM K Hb' H' v m f := by
  cases m with
  | fl x => exact RFl.grow g h
  | ins C fs =>
    obtain ⟨a, dx, ws, u, e1, e2, e3, e4, e5, e6⟩ := h
    exact ⟨a, dx, ws, u, e1, e2, g.free e3 e4, g.hh _ _ e4, e5.grow g, e6⟩
theorem RO.grow (g : Grow Hb H Hb' H') {v : Option V} {m : M} {f : List Addr} (h : RO K Hb H v m f) : RO K Hb' H' v m f := by
  cases v with
  | some v => exact RM.grow g h
  | none => cases m with
    | fl x => cases x <;> first | exact h | exact h.elim
    | ins C fs => exact h.elim
theorem OwnF.grow (g : Grow Hb H Hb' H') {es : List Ent} {F : List Addr} (h : OwnF K Hb H es F) : OwnF K Hb' H' es F := by
  induction h with
  | nil => exact .nil
  | cons r _ d ih => exact .cons (RO.grow g r) ih d
theorem Own.grow (g : Grow Hb H Hb' H') {es : List Ent} (h : Own K Hb H es) : Own K Hb' H' es := ⟨g.sub, h.2.imp fun _ q => q.grow g⟩
/-! ### footprints are tracked -/
mutual
theorem RT.there : ∀ {v : V} {t : Tr} {f : List Addr}, RT K Hb H v t f → ∀ p ∈ f, H p ≠ none ∧ Hb p = none
  | _, _, _, .d r => fun p hp => by cases hp
  | _, _, _, .ls h1 h2 h3 h4 => fun p hp => by
    rcases List.mem_cons.mp hp with h | h
    · subst h; exact ⟨by rw [h2]; simp, h1⟩
    · exact RTs.there h3 p h
  | _, _, _, .tp h1 h2 => RTs.there h2
  | _, _, _, .dk h1 h2 h3 h4 h5 => fun p hp => by
    rcases List.mem_cons.mp hp with h | h
    · subst h; exact ⟨by rw [h2]; simp, h1⟩
    · exact RTs.there h4 p h
theorem RTs.there : ∀ {v : List V} {t : List Tr} {f : List Addr}, RTs K Hb H v t f → ∀ p ∈ f, H p ≠ none ∧ Hb p = none
  | _, _, _, .nil => fun p hp => by cases hp
  | _, _, _, .cons r t d => fun p hp => by
    rcases List.mem_append.mp hp with h | h
    · exact RT.there r p h
    · exact RTs.there t p h
end
theorem RFl.there {v : V} {x : Fl} {f : List Addr} (h : RFl K Hb H v x f) : ∀ p ∈ f, H p ≠ none ∧ Hb p = none := by
  cases x with
  | tr t => exact RT.there h
  | val d => rw [h.1]; intro p hp; cases hp
  | raw w => rw [h.1]; intro p hp; cases hp
  | fact q =>
    obtain ⟨a, u, e1, e2, e3, e4, e5, e6⟩ := h
    subst e2; intro p hp
    have : p = a := by simpa using hp
    subst this; exact ⟨by rw [e4]; simp, e3⟩
  | hole => rw [show f = [] from h]; intro p hp; cases hp
  | lst ds =>
    obtain ⟨a, vs, e1, e2, e3, e4, e5⟩ := h
    subst e2; intro p hp
    have : p = a := by simpa using hp
    subst this; exact ⟨by rw [e4]; simp, e3⟩
  | dct ds =>
    obtain ⟨a, vs, e1, e2, e3, e4, e5⟩ := h
    subst e2; intro p hp
    have : p = a := by simpa using hp
    subst this; exact ⟨by rw [e4]; simp, e3⟩
theorem RFs.there {ws : List (Str × V)} {fs : List (Str × Fl)} {f : List Addr} (h : RFs K Hb H ws fs f) : ∀ p ∈ f, H p ≠ none ∧ Hb p = none := by
  induction h with
  | nil => intro p hp; cases hp
  | cons r _ d ih =>
    intro p hp
    rcases List.mem_append.mp hp with h | h
    · exact r.there p h
    · exact ih p h
theorem RM.there {v : V} {m : M} {f : List Addr} (h : RM K Hb H v m f) : ∀ p ∈ f, H p ≠ none ∧ Hb p = none := by
  cases m with
  | fl x => exact RFl.there h
  | ins C fs =>
    obtain ⟨a, dx, ws, u, e1, e2, e3, e4, e5, e6⟩ := h
    subst e2; intro p hp
    rcases List.mem_cons.mp hp with h | h
    · subst h; exact ⟨by rw [e4]; simp, e3⟩
    · exact e5.there p h
theorem RO.there {v : Option V} {m : M} {f : List Addr} (h : RO K Hb H v m f) : ∀ p ∈ f, H p ≠ none ∧ Hb p = none := by
  cases v with
  | some v => exact RM.there h
  | none => cases m with
    | fl x => cases x <;> first | exact h.elim | (rw [show f = [] from h]; intro p hp; cases hp)
    | ins C fs => exact h.elim
theorem OwnF.there {es : List Ent} {F : List Addr} (h : OwnF K Hb H es F) : ∀ p ∈ F, H p ≠ none ∧ Hb p = none := by
  induction h with
  | nil => intro p hp; cases hp
  | cons r _ d ih =>
    intro p hp
    rcases List.mem_append.mp hp with h | h
    · exact RO.there r p h
    · exact ih p h
/-! ### frames: what does not touch a footprint -/
/-- all but the footprint f stays; Hb grows by what was not tracked or stood in f -/
structure Keep (f : List Addr) (Hb H Hb' H' : Hp) : Prop where
  bb : Same Hb Hb'
  hh : ∀ p o, H p = some o → p ∉ f → H' p = some o
  sub : Same Hb' H'
  new : ∀ a, Hb a = none → Hb' a ≠ none → H a = none ∨ a ∈ f
section
variable {f : List Addr}
theorem Keep.free (g : Keep f Hb H Hb' H') {a : Addr} {o : HO} (h1 : Hb a = none) (h2 : H a = some o) (h3 : a ∉ f) : Hb' a = none := by
  cases e : Hb' a with
  | none => rfl
  | some u =>
    rcases g.new a h1 (by rw [e]; simp) with z | z
    · rw [z] at h2; cases h2
    · exact absurd z h3
mutual
theorem RT.keep (g : Keep f Hb H Hb' H') : ∀ {v : V} {t : Tr} {F : List Addr}, RT K Hb H v t F → (∀ p ∈ f, p ∉ F) → RT K Hb' H' v t F
  | _, _, _, .d r, _ => .d (Dp.same g.bb r)
  | _, _, _, .ls (a := a) h1 h2 h3 h4, d =>
    have n : a ∉ f := fun z => d a z (by simp)
    .ls (g.free h1 h2 n) (g.hh _ _ h2 n) (RTs.keep g h3 fun p hp hq => d p hp (List.mem_cons_of_mem _ hq)) h4
  | _, _, _, .tp h1 h2, d => .tp (h1.same g.bb) (RTs.keep g h2 d)
  | _, _, _, .dk (a := a) h1 h2 h3 h4 h5, d =>
    have n : a ∉ f := fun z => d a z (by simp)
    .dk (g.free h1 h2 n) (g.hh _ _ h2 n) h3 (RTs.keep g h4 fun p hp hq => d p hp (List.mem_cons_of_mem _ hq)) h5
theorem RTs.keep (g : Keep f Hb H Hb' H') : ∀ {v : List V} {t : List Tr} {F : List Addr}, RTs K Hb H v t F → (∀ p ∈ f, p ∉ F) → RTs K Hb' H' v t F
  | _, _, _, .nil, _ => .nil
  | _, _, _, .cons r t dd, d => .cons (RT.keep g r fun p hp hq => d p hp (List.mem_append_left _ hq)) (RTs.keep g t fun p hp hq => d p hp (List.mem_append_right _ hq)) dd
end
theorem RFl.keep (g : Keep f Hb H Hb' H') {v : V} {x : Fl} {F : List Addr} (h : RFl K Hb H v x F) (d : ∀ p ∈ f, p ∉ F) : RFl K Hb' H' v x F := by
  cases x with
  | tr t => exact RT.keep g h d
  | val d => exact ⟨h.1, Dp.same g.bb h.2⟩
  | raw w => exact h
  | hole => exact h
  | fact p =>
    obtain ⟨a, u, e1, e2, e3, e4, e5, e6⟩ := h
    have n : a ∉ f := fun z => d a z (by rw [e2]; simp)
    exact ⟨a, u, e1, e2, g.free e3 e4 n, g.hh _ _ e4 n, e6 _ _ g.bb e5, e6⟩
  | lst ds =>
    obtain ⟨a, vs, e1, e2, e3, e4, e5⟩ := h
    have n : a ∉ f := fun z => d a z (by rw [e2]; simp)
    exact ⟨a, vs, e1, e2, g.free e3 e4 n, g.hh _ _ e4 n, DpAll.same g.bb e5⟩
  | dct ds =>
    obtain ⟨a, vs, e1, e2, e3, e4, e5⟩ := h
    have n : a ∉ f := fun z => d a z (by rw [e2]; simp)
    exact ⟨a, vs, e1, e2, g.free e3 e4 n, g.hh _ _ e4 n, KD.same g.bb e5⟩
theorem RFs.keep (g : Keep f Hb H Hb' H') {ws : List (Str × V)} {fs : List (Str × Fl)} {F : List Addr} (h : RFs K Hb H ws fs F) (d : ∀ p ∈ f, p ∉ F) : RFs K Hb' H' ws fs F := by
  induction h with
  | nil => exact .nil
  | cons r _ dd ih => exact .cons (r.keep g fun p hp hq => d p hp (List.mem_append_left _ hq)) (ih fun p hp hq => d p hp (List.mem_append_right _ hq)) dd
theorem RM.keep (g : Keep f Hb H Hb' H') {v : V} {m : M} {F : List Addr} (h : RM K Hb H v m F) (d : ∀ p ∈ f, p ∉ F) : RM K Hb' H' v m F := by
  cases m with
  | fl x => exact RFl.keep g h d
  | ins C fs =>
    obtain ⟨a, dx, ws, u, e1, e2, e3, e4, e5, e6⟩ := h
    subst e2
    have n : a ∉ f := fun z => d a z (by simp)
    exact ⟨a, dx, ws, u, e1, rfl, g.free e3 e4 n, g.hh _ _ e4 n, e5.keep g fun p hp hq => d p hp (List.mem_cons_of_mem _ hq), e6⟩
theorem RO.keep (g : Keep f Hb H Hb' H') {v : Option V} {m : M} {F : List Addr} (h : RO K Hb H v m F) (d : ∀ p ∈ f, p ∉ F) : RO K Hb' H' v m F := by
  cases v with
  | some v => exact RM.keep g h d
  | none => cases m with
    | fl x => cases x <;> first | exact h | exact h.elim
    | ins C fs => exact h.elim
theorem OwnF.keep (g : Keep f Hb H Hb' H') {es : List Ent} {F : List Addr} (h : OwnF K Hb H es F) (d : ∀ p ∈ f, p ∉ F) : OwnF K Hb' H' es F := by
  induction h with
  | nil => exact .nil
  | cons r _ dd ih => exact .cons (RO.keep g r fun p hp hq => d p hp (List.mem_append_left _ hq)) (ih fun p hp hq => d p hp (List.mem_append_right _ hq)) dd
end
/-- the head is replaced -/
theorem Own.swap {e e' : Ent} {es : List Ent} (h : Own K Hb H (e :: es)) (k : ∀ f, RO K Hb H e.1 e.2 f → ∃ f', Keep f Hb H Hb' H' ∧ RO K Hb' H' e'.1 e'.2 f' ∧ ∀ p ∈ f', p ∈ f ∨ H p = none) : Own K Hb' H' (e' :: es) := by
  obtain ⟨s, F, h⟩ := h
  cases h with
  | cons r t d =>
    obtain ⟨f', g, r', n⟩ := k _ r
    refine ⟨g.sub, _, .cons r' (t.keep g d) fun p hp hq => ?_⟩
    rcases n p hp with z | z
    · exact d p z hq
    · exact (t.there p hq).1 z
/-- something new -/
theorem Own.new {e : Ent} {es : List Ent} {f : List Addr} (h : Own K Hb H es) (g : Grow Hb H Hb' H') (r : RO K Hb' H' e.1 e.2 f) (n : ∀ p ∈ f, H p = none) : Own K Hb' H' (e :: es) := by
  obtain ⟨s, F, h⟩ := h
  exact ⟨g.sub, _, .cons r (h.grow g) fun p hp hq => (h.there p hq).1 (n p hp)⟩
theorem grow_upd {a : Addr} {o : HO} (s : Same Hb H) (h : H a = none) : Grow Hb H Hb (upd H a o) :=
  ⟨fun _ _ q => q, fun b x e => by rw [upd_ne (ne_of_none e h)]; exact e, fun b x e => by rw [upd_ne (ne_of_none (s b x e) h)]; exact s b x e, fun _ h1 h2 => absurd h1 h2⟩
theorem grow_both {a : Addr} {o : HO} (s : Same Hb H) (h : H a = none) : Grow Hb H (upd Hb a o) (upd H a o) := by
  have hb : Hb a = none := s.free h
  refine ⟨fun b x e => by rw [upd_ne (ne_of_none e hb)]; exact e, fun b x e => by rw [upd_ne (ne_of_none e h)]; exact e, fun b x e => ?_, fun b h1 h2 => ?_⟩
  · by_cases q : b = a
    · subst q; rw [upd_same] at e ⊢; exact e
    · rw [upd_ne q] at e ⊢; exact s b x e
  · by_cases q : b = a
    · subst q; exact h
    · rw [upd_ne q] at h2; exact absurd h1 h2
theorem Grow.trans {Hb1 H1 Hb2 H2 : Hp} (g : Grow Hb H Hb1 H1) (k : Grow Hb1 H1 Hb2 H2) : Grow Hb H Hb2 H2 :=
  ⟨fun b o e => k.bb b o (g.bb b o e), fun b o e => k.hh b o (g.hh b o e), k.sub, fun a h1 h2 => by
    cases q : Hb1 a with
    | some o => exact g.new a h1 (by rw [q]; simp)
    | none =>
      have := k.new a q h2
      cases z : H a with
      | none => rfl
      | some o => rw [g.hh a o z] at this; cases this⟩
/-! ### owned data, standing still from now on -/
mutual
def Tr.fz : Tr → Option PyData
  | .d d => some d
  | .ls xs => (trsFz xs).map .list
  | .tp xs => (trsFz xs).map .tuple
  | .dk _ _ => none
def trsFz : List Tr → Option (List PyData)
  | [] => some []
  | x :: xs => match x.fz, trsFz xs with
    | some d, some ds => some (d :: ds)
    | _, _ => none
end
theorem trsFz_cons {x : Tr} {xs : List Tr} {es : List PyData} (h : trsFz (x :: xs) = some es) : ∃ d ds, x.fz = some d ∧ trsFz xs = some ds ∧ es = d :: ds := by
  unfold trsFz at h
  split at h
  · rename_i d ds h1 h2; cases h; exact ⟨d, ds, h1, h2, rfl⟩
  · cases h
mutual
theorem RT.dp {Hq : Hp} (bb : Same Hb Hq) : ∀ {v : V} {t : Tr} {f : List Addr} {x : PyData}, RT K Hb H v t f → (∀ p ∈ f, Hq p = H p) → t.fz = some x → Dp K Hq v x
  | _, _, _, x, .d r, _, h => by
    unfold Tr.fz at h; cases h; exact Dp.same bb r
  | _, _, _, x, .ls (a := a) h1 h2 h3 h4, hf, h => by
    unfold Tr.fz at h
    obtain ⟨ds, hd, e⟩ := Option.map_eq_some_iff.mp h
    subst e
    exact .lst (.inl (.inl ((hf a (by simp)).trans h2))) (RTs.dp bb h3 (fun p hp => hf p (List.mem_cons_of_mem _ hp)) hd)
  | _, _, _, x, .tp h1 h2, hf, h => by
    unfold Tr.fz at h
    obtain ⟨ds, hd, e⟩ := Option.map_eq_some_iff.mp h
    subst e
    exact .tup (h1.same bb) (RTs.dp bb h2 hf hd)
  | _, _, _, x, .dk _ _ _ _ _, _, h => by unfold Tr.fz at h; cases h
theorem RTs.dp {Hq : Hp} (bb : Same Hb Hq) : ∀ {v : List V} {t : List Tr} {f : List Addr} {x : List PyData}, RTs K Hb H v t f → (∀ p ∈ f, Hq p = H p) → trsFz t = some x → DpAll K Hq v x
  | _, _, _, x, .nil, _, h => by unfold trsFz at h; cases h; exact .nil
  | _, _, _, x, .cons r t d, hf, h => by
    obtain ⟨d, ds, h1, h2, e⟩ := trsFz_cons h
    subst e
    exact .cons (RT.dp bb r (fun p hp => hf p (List.mem_append_left _ hp)) h1) (RTs.dp bb t (fun p hp => hf p (List.mem_append_right _ hp)) h2)
end
theorem own_tup {es : List Ent} {p : Addr} {ob : Obj} {ys : List V} {ds : List PyData} (o : Own K Hb H es) (hb : bare ob) (hp : H p = none) (hd : DpAll K Hb ys ds) : Own K (upd Hb p (.frz ob (.tup ys))) (upd H p (.frz ob (.tup ys))) ((some (.ref p), .val (.tuple ds)) :: es) :=
  (o.grow (grow_both o.1 hp)).val (.tup ⟨ob, hb, upd_same⟩ (DpAll.same (grow_both o.1 hp).bb hd))
end
end Sm

/-! Sim1: environments, worlds, the judgements, operands, primitives. -/
namespace Sm
open PySem PySem.Spec PyProof.Rows L2

inductive Slot where
  | own (m : M)
  | bor (k : Nat)
def Slot.cont : Slot → M
  | .own m => m
  | .bor _ => .hole
structure Env where
  s : List Slot
  a : List M
def getS : List Slot → Nat → Slot
  | [], _ => .own .hole
  | x :: _, 0 => x
  | _ :: l, i + 1 => getS l i
def getM : List M → Nat → M
  | [], _ => .hole
  | x :: _, 0 => x
  | _ :: l, i + 1 => getM l i
def Env.get (e : Env) (i : Nat) : M := match getS e.s i with
  | .own m => m
  | .bor k => getM e.a k
def Env.put (e : Env) (i : Nat) (m : M) : Env := match getS e.s i with
  | .own _ => ⟨e.s.set i (.own m), e.a⟩
  | .bor k => ⟨e.s, e.a.set k m⟩
def Env.asg (e : Env) (i : Nat) (m : M) : Env := ⟨e.s.set i (.own m), e.a⟩
def M.isHole : M → Bool
  | .fl .hole => true
  | _ => false

def entsS (σ : L2.St) (s : List Slot) : List Ent := List.zipWith (fun o sl => (o, Slot.cont sl)) σ s
def entsA (vs : List V) (a : List M) : List Ent := List.zipWith (fun v m => (some v, m)) vs a
structure Wld (K : PySem.W.Frag) (Hb H : Hp) (σ : L2.St) (vs : List V) (e : Env) (fr : List Ent) : Prop where
  ls : σ.length = e.s.length
  la : vs.length = e.a.length
  bor : ∀ i k, getS e.s i = .bor k → ∃ v, vs[k]? = some v ∧ σ[i]? = some (some v)
  own : Own K Hb H (entsS σ e.s ++ (entsA vs e.a ++ fr))

theorem getS_set_ne {s : List Slot} {x : Slot} : ∀ {i j : Nat}, i ≠ j → getS (s.set i x) j = getS s j := by
  induction s with
  | nil => intro i j h; rfl
  | cons y s ih =>
    intro i j h
    cases i with
    | zero => cases j with
      | zero => exact absurd rfl h
      | succ j => rfl
    | succ i => cases j with
      | zero => rfl
      | succ j => exact ih fun e => h (by rw [e])
theorem getS_set {s : List Slot} {x : Slot} : ∀ {i : Nat}, i < s.length → getS (s.set i x) i = x := by
  induction s with
  | nil => intro i h; cases h
  | cons y s ih =>
    intro i h
    cases i with
    | zero => rfl
    | succ i => exact ih (Nat.lt_of_succ_lt_succ h)
theorem getS_out {s : List Slot} : ∀ {i : Nat}, s.length ≤ i → getS s i = .own .hole := by
  induction s with
  | nil => intro i h; rfl
  | cons y s ih =>
    intro i h
    cases i with
    | zero => cases h
    | succ i => exact ih (Nat.le_of_succ_le_succ h)
theorem getM_out {s : List M} : ∀ {i : Nat}, s.length ≤ i → getM s i = .hole := by
  induction s with
  | nil => intro i h; rfl
  | cons y s ih =>
    intro i h
    cases i with
    | zero => cases h
    | succ i => exact ih (Nat.le_of_succ_le_succ h)
theorem zipS_at : ∀ {σ : L2.St} {s : List Slot} {i : Nat}, σ.length = s.length → i < s.length → ∃ P R o, σ[i]? = some o ∧ entsS σ s = P ++ (o, (getS s i).cont) :: R ∧ (∀ x, entsS σ (s.set i x) = P ++ (o, x.cont) :: R) ∧ ∀ o' x, entsS (σ.set i o') (s.set i x) = P ++ (o', x.cont) :: R
  | [], [], _, _, h => by cases h
  | o :: σ, x :: s, 0, _, _ => ⟨[], entsS σ s, o, rfl, rfl, fun _ => rfl, fun _ _ => rfl⟩
  | o :: σ, x :: s, i + 1, hl, h => by
    obtain ⟨P, R, q, e0, e1, e2, e3⟩ := zipS_at (σ := σ) (s := s) (i := i) (by simpa using hl) (by simpa using h)
    refine ⟨(o, x.cont) :: P, R, q, by simpa using e0, ?_, fun y => ?_, fun o' y => ?_⟩
    · show (o, x.cont) :: entsS σ s = _
      rw [e1]; rfl
    · show (o, x.cont) :: entsS σ (s.set i y) = _
      rw [e2]; rfl
    · show (o, x.cont) :: entsS (σ.set i o') (s.set i y) = _
      rw [e3]; rfl
theorem zipA_at : ∀ {vs : List V} {a : List M} {i : Nat}, vs.length = a.length → i < a.length → ∃ P R v, vs[i]? = some v ∧ entsA vs a = P ++ (some v, getM a i) :: R ∧ ∀ x, entsA vs (a.set i x) = P ++ (some v, x) :: R
  | [], [], _, _, h => by cases h
  | o :: vs, x :: s, 0, _, _ => ⟨[], entsA vs s, o, rfl, rfl, fun _ => rfl⟩
  | o :: vs, x :: s, i + 1, hl, h => by
    obtain ⟨P, R, q, e0, e1, e2⟩ := zipA_at (vs := vs) (a := s) (i := i) (by simpa using hl) (by simpa using h)
    refine ⟨(some o, x) :: P, R, q, by simpa using e0, ?_, fun y => ?_⟩
    · show (some o, x) :: entsA vs s = _
      rw [e1]; rfl
    · show (some o, x) :: entsA vs (s.set i y) = _
      rw [e2]; rfl
section
variable {K : PySem.W.Frag} {Hb H Hb' H' : Hp} {σ : L2.St} {vs : List V} {e : Env} {fr fr' es : List Ent}
abbrev Env.ents (e : Env) (σ : L2.St) (vs : List V) (fr : List Ent) : List Ent := entsS σ e.s ++ (entsA vs e.a ++ fr)
theorem Wld.fr1 (w : Wld K Hb H σ vs e fr) (h : Own K Hb' H' (e.ents σ vs fr')) : Wld K Hb' H' σ vs e fr' := ⟨w.ls, w.la, w.bor, h⟩
theorem Wld.same (w : Wld K Hb H σ vs e fr) : Same Hb H := w.own.1
theorem ents_mid {x : Ent} {fr fr' : List Ent} (e : Env) (σ : L2.St) (vs : List V) : (x :: e.ents σ vs (fr ++ fr')).Perm (e.ents σ vs (fr ++ x :: fr')) := by
  unfold Env.ents
  have : (entsS σ e.s ++ (entsA vs e.a ++ (fr ++ x :: fr'))) = ((entsS σ e.s ++ (entsA vs e.a ++ fr)) ++ x :: fr') := by simp
  rw [this]
  refine (List.Perm.cons x ?_).trans List.perm_middle.symm
  simp
theorem ents_cons {x : Ent} {fr : List Ent} (e : Env) (σ : L2.St) (vs : List V) : (x :: e.ents σ vs fr).Perm (e.ents σ vs (x :: fr)) := ents_mid (fr := []) e σ vs
theorem Wld.perm (w : Wld K Hb H σ vs e fr) (p : fr.Perm fr') : Wld K Hb H σ vs e fr' := w.fr1 (w.own.perm (List.Perm.append_left _ (List.Perm.append_left _ p)))
theorem Own.drop_mid {l m r : List Ent} (h : Own K Hb H (l ++ (m ++ r))) : Own K Hb H (l ++ r) := by
  have : (l ++ (m ++ r)).Perm (m ++ (l ++ r)) := by
    rw [← List.append_assoc, ← List.append_assoc]
    exact List.Perm.append_right _ List.perm_append_comm
  exact (h.perm this).drop1
theorem Wld.drop (w : Wld K Hb H σ vs e (es ++ fr)) : Wld K Hb H σ vs e fr := w.fr1 (by
  have h : Own K Hb H (entsS σ e.s ++ (entsA vs e.a ++ (es ++ fr))) := w.own
  rw [← List.append_assoc] at h
  have h2 := h.drop_mid
  rw [List.append_assoc] at h2
  exact h2)
theorem Wld.drop1 {x : Ent} (w : Wld K Hb H σ vs e (x :: fr)) : Wld K Hb H σ vs e fr := Wld.drop (es := [x]) w
/-- out of the frame: to the front -/
theorem Wld.front {x : Ent} (w : Wld K Hb H σ vs e (x :: fr)) : Own K Hb H (x :: e.ents σ vs fr) := w.own.perm (ents_cons e σ vs).symm
theorem Wld.back {x : Ent} (w : Wld K Hb H σ vs e fr) (h : Own K Hb' H' (x :: e.ents σ vs fr')) : Wld K Hb' H' σ vs e (x :: fr') := w.fr1 (h.perm (ents_cons e σ vs))
theorem Wld.grow (w : Wld K Hb H σ vs e fr) (g : Grow Hb H Hb' H') : Wld K Hb' H' σ vs e fr := w.fr1 (w.own.grow g)

/-- THE RULE for a slot's content: it stands apart from the rest; another may be put there -/
theorem Wld.at (w : Wld K Hb H σ vs e fr) {i : Nat} (hm : (e.get i).isHole = false) : ∃ v R, σ[i]? = some (some v) ∧ (∀ fr, (e.ents σ vs fr).Perm ((some v, e.get i) :: (R ++ fr))) ∧
    ∀ m', (∀ fr, ((some v, m') :: (R ++ fr)).Perm ((e.put i m').ents σ vs fr)) ∧ σ.length = (e.put i m').s.length ∧ vs.length = (e.put i m').a.length ∧ ∀ j k, getS (e.put i m').s j = .bor k → ∃ v, vs[k]? = some v ∧ σ[j]? = some (some v) := by
  cases q : getS e.s i with
  | own m =>
    have hi : i < e.s.length := by
      apply Classical.byContradiction; intro z
      have : e.get i = .hole := by unfold Env.get; rw [getS_out (Nat.le_of_not_lt z)]
      rw [this] at hm; cases hm
    obtain ⟨P, R, o, e0, e1, e2, _⟩ := zipS_at w.ls hi
    have eg : e.get i = m := by unfold Env.get; rw [q]
    have ho : ∃ v, o = some v := by
      have h := w.own
      rw [e1, q] at h
      obtain ⟨f, r⟩ := h.mem (e := (o, m)) (by simp [Slot.cont])
      cases o with
      | some v => exact ⟨v, rfl⟩
      | none =>
        rw [eg] at hm
        cases m with
        | ins C fs => exact r.elim
        | fl x => cases x <;> first | exact r.elim | (cases hm)
    obtain ⟨v, rfl⟩ := ho
    refine ⟨v, P ++ (R ++ entsA vs e.a), e0, fun fr => ?_, fun m' => ?_⟩
    · show (entsS σ e.s ++ (entsA vs e.a ++ fr)).Perm _
      rw [e1, q, eg]
      have : ((P ++ (some v, (Slot.own m).cont) :: R) ++ (entsA vs e.a ++ fr)) = (P ++ (some v, m) :: (R ++ (entsA vs e.a ++ fr))) := by simp [Slot.cont]
      rw [this]
      refine List.perm_middle.trans ?_
      simp
    · have ep : e.put i m' = ⟨e.s.set i (.own m'), e.a⟩ := by unfold Env.put; rw [q]
      rw [ep]
      refine ⟨fun fr => ?_, by simp [w.ls], w.la, fun j k hj => ?_⟩
      · show List.Perm _ (entsS σ (e.s.set i (.own m')) ++ (entsA vs e.a ++ fr))
        rw [e2]
        have : ((P ++ (some v, (Slot.own m').cont) :: R) ++ (entsA vs e.a ++ fr)) = (P ++ (some v, m') :: (R ++ (entsA vs e.a ++ fr))) := by simp [Slot.cont]
        rw [this]
        refine List.Perm.trans ?_ List.perm_middle.symm
        simp
      · by_cases z : i = j
        · subst z
          rw [show getS (⟨e.s.set i (.own m'), e.a⟩ : Env).s i = .own m' from getS_set hi] at hj; cases hj
        · rw [show getS (⟨e.s.set i (.own m'), e.a⟩ : Env).s j = getS e.s j from getS_set_ne z] at hj
          exact w.bor j k hj
  | bor k =>
    have hk : k < e.a.length := by
      apply Classical.byContradiction; intro z
      have : e.get i = .hole := by unfold Env.get; rw [q]; exact getM_out (Nat.le_of_not_lt z)
      rw [this] at hm; cases hm
    obtain ⟨P, R, v, e0, e1, e2⟩ := zipA_at w.la hk
    have eg : e.get i = getM e.a k := by unfold Env.get; rw [q]
    obtain ⟨v', h1, h2⟩ := w.bor i k q
    have : v' = v := by rw [e0] at h1; exact (Option.some.inj h1).symm
    subst this
    refine ⟨v', entsS σ e.s ++ (P ++ R), h2, fun fr => ?_, fun m' => ?_⟩
    · show (entsS σ e.s ++ (entsA vs e.a ++ fr)).Perm _
      rw [e1, eg]
      have : (entsS σ e.s ++ ((P ++ (some v', getM e.a k) :: R) ++ fr)) = ((entsS σ e.s ++ P) ++ (some v', getM e.a k) :: (R ++ fr)) := by simp
      rw [this]
      refine List.perm_middle.trans ?_
      simp
    · have ep : e.put i m' = ⟨e.s, e.a.set k m'⟩ := by unfold Env.put; rw [q]
      rw [ep]
      refine ⟨fun fr => ?_, w.ls, by simp [w.la], w.bor⟩
      show List.Perm _ (entsS σ e.s ++ (entsA vs (e.a.set k m') ++ fr))
      rw [e2]
      have : (entsS σ e.s ++ ((P ++ (some v', m') :: R) ++ fr)) = ((entsS σ e.s ++ P) ++ (some v', m') :: (R ++ fr)) := by simp
      rw [this]
      refine List.Perm.trans ?_ List.perm_middle.symm
      simp
/-- name = value -/
theorem Wld.asg {v : V} {m : M} (w : Wld K Hb H σ vs e ((some v, m) :: fr)) (i : Nat) : Wld K Hb H (σ.set i (some v)) vs (e.asg i m) fr := by
  by_cases hi : i < e.s.length
  · obtain ⟨P, R, o, e0, e1, _, e3⟩ := zipS_at w.ls hi
    refine ⟨by simp [Env.asg, w.ls], w.la, fun j k hj => ?_, ?_⟩
    · by_cases z : i = j
      · subst z
        rw [show getS (e.asg i m).s i = .own m from getS_set hi] at hj; cases hj
      · rw [show getS (e.asg i m).s j = getS e.s j from getS_set_ne z] at hj
        rw [List.getElem?_set_ne z]
        exact w.bor j k hj
    · show Own K Hb H (entsS (σ.set i (some v)) (e.s.set i (.own m)) ++ (entsA vs e.a ++ fr))
      have h := w.front
      rw [show e.ents σ vs fr = entsS σ e.s ++ (entsA vs e.a ++ fr) from rfl, e1] at h
      rw [e3]
      have p1 : (((some v, m) : Ent) :: ((P ++ (o, (getS e.s i).cont) :: R) ++ (entsA vs e.a ++ fr))).Perm ((o, (getS e.s i).cont) :: ((P ++ (some v, m) :: R) ++ (entsA vs e.a ++ fr))) := by
        have : ((P ++ (o, (getS e.s i).cont) :: R) ++ (entsA vs e.a ++ fr)) = P ++ (o, (getS e.s i).cont) :: (R ++ (entsA vs e.a ++ fr)) := by simp
        rw [this]
        refine ((List.Perm.cons _ List.perm_middle).trans (List.Perm.swap _ _ _)).trans (List.Perm.cons _ ?_)
        have : ((P ++ (some v, m) :: R) ++ (entsA vs e.a ++ fr)) = P ++ (some v, m) :: (R ++ (entsA vs e.a ++ fr)) := by simp
        rw [this]
        exact List.perm_middle.symm
      exact (h.perm p1).tail
  · have h1 : σ.set i (some v) = σ := List.set_eq_of_length_le (by rw [w.ls]; omega)
    have h2 : e.asg i m = e := by unfold Env.asg; rw [List.set_eq_of_length_le (by omega)]
    rw [h1, h2]
    exact w.drop1
theorem Wld.slot (w : Wld K Hb H σ vs e fr) {i : Nat} (hm : (e.get i).isHole = false) : ∃ v, σ[i]? = some (some v) ∧ ∃ f, RM K Hb H v (e.get i) f := by
  obtain ⟨v, R, h1, h2, _⟩ := w.at hm
  obtain ⟨f, r⟩ := (w.own.perm (h2 fr)).head
  exact ⟨v, h1, f, r⟩
end

/-! ### results -/
structure Exc where
  cls : Addr
  fs : Option (List (Str × V))
def ExcAt (H : Hp) (x : Exc) (c : Value) (d : Option Addr) : Prop := c = .ref x.cls ∧ match x.fs with
  | none => d = none
  | some fs => ∃ a, d = some a ∧ H a = some (.xd fs)
inductive RE (α : Type) where
  | ok (x : α) (e : Env)
  | exc (x : Exc) (e : Env)
  | bad
inductive RS where
  | nx (e : Env)
  | ret (m : M) (e : Env)
  | exc (x : Exc) (e : Env)
  | brk (e : Env)
  | ct (e : Env)
  | bad
abbrev DE := Env → RE M
abbrev DT := Env → RE Bool
abbrev DS := Env → RS
def RE.bind {α β : Type} (r : RE α) (k : α → Env → RE β) : RE β := match r with
  | .ok x e => k x e
  | .exc x e => .exc x e
  | .bad => .bad
section
variable (K : PySem.W.Frag) (E : XK)
def PostE (σ : L2.St) (vs : List V) (fr : List Ent) (Q : VK) : RE M → Prop
  | .ok m e => ∀ v Hb H, Wld K Hb H σ vs e ((some v, m) :: fr) → Q v H
  | .exc x e => ∀ c d Hb H, Wld K Hb H σ vs e fr → ExcAt H x c d → E c d H
  | .bad => False
def PostT (σ : L2.St) (vs : List V) (fr : List Ent) (Q : Bool → Hp → Prop) : RE Bool → Prop
  | .ok b e => ∀ Hb H, Wld K Hb H σ vs e fr → Q b H
  | .exc x e => ∀ c d Hb H, Wld K Hb H σ vs e fr → ExcAt H x c d → E c d H
  | .bad => False
def PostS (vs : List V) (fr : List Ent) (D : Ends) : RS → Prop
  | .nx e => ∀ σ Hb H, Wld K Hb H σ vs e fr → D.nx σ H
  | .ret m e => ∀ v σ Hb H, Wld K Hb H σ vs e ((some v, m) :: fr) → D.rt v H
  | .exc x e => ∀ c d σ Hb H, Wld K Hb H σ vs e fr → ExcAt H x c d → E c d H
  | .brk e => ∀ σ Hb H, Wld K Hb H σ vs e fr → D.bk σ H
  | .ct e => ∀ σ Hb H, Wld K Hb H σ vs e fr → D.ct σ H
  | .bad => False
def SimE (t : TE) (d : DE) : Prop := ∀ σ vs Hb H e fr Q, Wld K Hb H σ vs e fr → PostE K E σ vs fr Q (d e) → t σ H Q
def SimT (t : TT) (d : DT) : Prop := ∀ σ vs Hb H e fr Q, Wld K Hb H σ vs e fr → PostT K E σ vs fr Q (d e) → t σ H Q
def SimS (t : TS) (d : DS) : Prop := ∀ σ vs Hb H e fr D, Wld K Hb H σ vs e fr → PostS K E vs fr D (d e) → t D σ H
end
/-! ### operands -/
inductive OpD where
  | e (d : DE)
  | v (i : Nat)
def evA : List OpD → Env → RE (List M)
  | [], e => .ok [] e
  | .e d :: os, e => (d e).bind fun m e1 => (evA os e1).bind fun ms e2 => .ok (m :: ms) e2
  | .v i :: os, e => match (e.get i).isHole with
    | true => .bad
    | false => (evA os e).bind fun ms e2 => .ok (e2.get i :: ms) e2
inductive AOk (σ : L2.St) (e : Env) : List OpD → List V → List M → List Ent → Prop
  | nil : AOk σ e [] [] [] []
  | e {d : DE} {os : List OpD} {u : V} {us : List V} {m : M} {ms : List M} {es : List Ent} : AOk σ e os us ms es → AOk σ e (.e d :: os) (u :: us) (m :: ms) ((some u, m) :: es)
  | v {i : Nat} {os : List OpD} {u : V} {us : List V} {ms : List M} {es : List Ent} : σ[i]? = some (some u) → AOk σ e os us ms es → AOk σ e (.v i :: os) (u :: us) (e.get i :: ms) es
section
variable {K : PySem.W.Frag} {E : XK}
def PostA (K : PySem.W.Frag) (E : XK) (σ : L2.St) (vs : List V) (fr : List Ent) (os : List OpD) (R : List V → Hp → Prop) : RE (List M) → Prop
  | .ok ms e => ∀ us es Hb H, AOk σ e os us ms es → Wld K Hb H σ vs e (es ++ fr) → R us H
  | .exc x e => ∀ c d Hb H, Wld K Hb H σ vs e fr → ExcAt H x c d → E c d H
  | .bad => False
def SimA (K : PySem.W.Frag) (E : XK) (t : TA) (os : List OpD) : Prop := ∀ σ vs Hb H e fr R, Wld K Hb H σ vs e fr → PostA K E σ vs fr os R (evA os e) → t σ H R
theorem sa_nil : SimA K E tNil [] := fun σ vs Hb H e fr R w h => h [] [] Hb H .nil w
theorem sa_e {t : TE} {d : DE} {ta : TA} {os : List OpD} (h1 : SimE K E t d) (h2 : SimA K E ta os) : SimA K E (tCons t ta) (.e d :: os) := by
  intro σ vs Hb H e fr R w h
  show t σ H fun x H1 => ta σ H1 fun xs H2 => R (x :: xs) H2
  refine h1 σ vs Hb H e fr _ w ?_
  have h' : PostA K E σ vs fr (.e d :: os) R ((d e).bind fun m e1 => (evA os e1).bind fun ms e2 => .ok (m :: ms) e2) := h
  cases q : d e with
  | bad => rw [q] at h'; exact h'.elim
  | exc x e1 => rw [q] at h'; exact h'
  | ok m e1 =>
    rw [q] at h'
    intro v Hb1 H1 w1
    refine h2 σ vs Hb1 H1 e1 ((some v, m) :: fr) _ w1 ?_
    have h3 : PostA K E σ vs fr (.e d :: os) R ((evA os e1).bind fun ms e2 => .ok (m :: ms) e2) := h'
    cases q2 : evA os e1 with
    | bad => rw [q2] at h3; exact h3.elim
    | exc x e2 =>
      rw [q2] at h3
      exact fun c dd Hb2 H2 w2 hx => h3 c dd Hb2 H2 w2.drop1 hx
    | ok ms e2 =>
      rw [q2] at h3
      intro us es Hb2 H2 a2 w2
      exact h3 (v :: us) ((some v, m) :: es) Hb2 H2 (.e a2) (w2.perm (by exact List.perm_middle))
theorem sa_v {i : Nat} {ta : TA} {os : List OpD} (h2 : SimA K E ta os) : SimA K E (tCons (tVar i) ta) (.v i :: os) := by
  intro σ vs Hb H e fr R w h
  have h' : PostA K E σ vs fr (.v i :: os) R (match (e.get i).isHole with
    | true => .bad
    | false => (evA os e).bind fun ms e2 => .ok (e2.get i :: ms) e2) := h
  cases q : (e.get i).isHole with
  | true => rw [q] at h'; exact h'.elim
  | false =>
    rw [q] at h'
    obtain ⟨v, hv, _⟩ := w.slot q
    refine ⟨v, hv, ?_⟩
    refine h2 σ vs Hb H e fr _ w ?_
    have h3 : PostA K E σ vs fr (.v i :: os) R ((evA os e).bind fun ms e2 => .ok (e2.get i :: ms) e2) := h'
    cases q2 : evA os e with
    | bad => rw [q2] at h3; exact h3.elim
    | exc x e2 => rw [q2] at h3; exact h3
    | ok ms e2 =>
      rw [q2] at h3
      intro us es Hb2 H2 a2 w2
      exact h3 (v :: us) es Hb2 H2 (.v hv a2) w2
/-- what the operands are, at the end -/
abbrev Reps (K : PySem.W.Frag) (Hb H : Hp) : List V → List M → Prop := Paired fun u m => ∃ f, RM K Hb H u m f
theorem AOk.reps {σ : L2.St} {vs : List V} {e : Env} {fr : List Ent} {Hb H : Hp} : ∀ {os : List OpD} {us : List V} {ms : List M} {es : List Ent}, AOk σ e os us ms es → Wld K Hb H σ vs e (es ++ fr) → Reps K Hb H us ms
  | _, _, _, _, .nil, _ => .nil
  | _, _, _, _, .e a, w => by
    obtain ⟨f, r⟩ := w.front.head
    exact .cons ⟨f, r⟩ (AOk.reps (fr := fr) a w.drop1)
  | _, _, _, _, .v (i := i) (u := u) hv a, w => by
    refine .cons ?_ (AOk.reps a w)
    cases q : (e.get i).isHole with
    | false =>
      obtain ⟨v, h1, h2⟩ := w.slot q
      rw [hv] at h1
      have : u = v := Option.some.inj (Option.some.inj h1)
      subst this; exact h2
    | true =>
      have : e.get i = .hole := by
        cases z : e.get i with
        | ins C fs => rw [z] at q; cases q
        | fl x => cases x <;> first | rfl | (rw [z] at q; cases q)
      rw [this]; exact ⟨[], rfl⟩
/-- a primitive: what it gives of its operands -/
def Prim (K : PySem.W.Frag) (r : List V → Hp → VK → Prop) (g : List M → Option M) : Prop :=
  ∀ us ms m Hb H es Q, g ms = some m → Own K Hb H es → Reps K Hb H us ms → (∀ v Hb' H', Own K Hb' H' ((some v, m) :: es) → Q v H') → r us H Q
def cOp (g : List M → Option M) (os : List OpD) : DE := fun e => (evA os e).bind fun ms e2 => match g ms with
  | some m => .ok m e2
  | none => .bad
theorem prim_end {r : List V → Hp → VK → Prop} {g : List M → Option M} {os : List OpD} {σ : L2.St} {vs : List V} {e : Env} {fr : List Ent} {Q : VK} (P : Prim K r g) (h : PostE K E σ vs fr Q (cOp g os e)) : PostA K E σ vs fr os (fun us H => r us H Q) (evA os e) := by
  have h' : PostE K E σ vs fr Q ((evA os e).bind fun ms e2 => match g ms with
    | some m => .ok m e2
    | none => .bad) := h
  cases q : evA os e with
  | bad => rw [q] at h'; exact h'.elim
  | exc x e1 => rw [q] at h'; exact h'
  | ok ms e1 =>
    rw [q] at h'
    intro us es Hb H a w
    have h3 : PostE K E σ vs fr Q (match g ms with
      | some m => .ok m e1
      | none => .bad) := h'
    cases q2 : g ms with
    | none => rw [q2] at h3; exact h3.elim
    | some m =>
      rw [q2] at h3
      refine P us ms m Hb H _ Q q2 w.own (AOk.reps a w) fun v Hb' H' o => ?_
      have w1 : Wld K Hb' H' σ vs e1 ((some v, m) :: (es ++ fr)) := w.back o
      exact h3 v Hb' H' (Wld.drop (es := es) (w1.perm (by exact List.perm_middle.symm)))
/-- a primitive of two operands -/
def r2L (r : R2) : List V → Hp → VK → Prop := fun us H Q => match us with
  | [x, y] => r x y H Q
  | _ => False
def r1L (r : V → Hp → VK → Prop) : List V → Hp → VK → Prop := fun us H Q => match us with
  | [x] => r x H Q
  | _ => False
theorem se_op {r : R2} {ta tb : TE} {g : List M → Option M} {os : List OpD} (P : Prim K (r2L r) g) (h : SimA K E (tCons ta (tCons tb tNil)) os) : SimE K E (tOp r ta tb) (cOp g os) := by
  intro σ vs Hb H e fr Q w hq
  exact h σ vs Hb H e fr _ w (prim_end P hq)
theorem se_un {r : V → Hp → VK → Prop} {ta : TE} {g : List M → Option M} {os : List OpD} (P : Prim K (r1L r) g) (h : SimA K E (tCons ta tNil) os) : SimE K E (tUn r ta) (cOp g os) := by
  intro σ vs Hb H e fr Q w hq
  exact h σ vs Hb H e fr _ w (prim_end P hq)
theorem se_cb {r : List V → Hp → VK → Prop} {t : TA} {g : List M → Option M} {os : List OpD} (P : Prim K r g) (h : SimA K E t os) : SimE K E (tCB r t) (cOp g os) := by
  intro σ vs Hb H e fr Q w hq
  exact h σ vs Hb H e fr _ w (prim_end P hq)
end
end Sm

/-! Sim2: expressions, tests, calls. -/
namespace Sm
open PySem PySem.Spec PyProof.Rows L2
section
variable {K : PySem.W.Frag} {E : XK}
theorem PostE.bind {σ : L2.St} {vs : List V} {fr : List Ent} {Q : VK} {α : Type} {r : RE α} {k : α → Env → RE M} (h : PostE K E σ vs fr Q (r.bind k)) :
    (∃ x e, r = .ok x e ∧ PostE K E σ vs fr Q (k x e)) ∨ ∃ x e, r = .exc x e ∧ ∀ c d Hb H, Wld K Hb H σ vs e fr → ExcAt H x c d → E c d H := by
  cases r with
  | ok x e => exact .inl ⟨x, e, rfl, h⟩
  | exc x e => exact .inr ⟨x, e, rfl, h⟩
  | bad => exact h.elim
theorem PostT.bind {σ : L2.St} {vs : List V} {fr : List Ent} {Q : Bool → Hp → Prop} {α : Type} {r : RE α} {k : α → Env → RE Bool} (h : PostT K E σ vs fr Q (r.bind k)) :
    (∃ x e, r = .ok x e ∧ PostT K E σ vs fr Q (k x e)) ∨ ∃ x e, r = .exc x e ∧ ∀ c d Hb H, Wld K Hb H σ vs e fr → ExcAt H x c d → E c d H := by
  cases r with
  | ok x e => exact .inl ⟨x, e, rfl, h⟩
  | exc x e => exact .inr ⟨x, e, rfl, h⟩
  | bad => exact h.elim
/-- running an expression -/
theorem SimE.run {t : TE} {d : DE} (h : SimE K E t d) {σ : L2.St} {vs : List V} {Hb H : Hp} {e : Env} {fr : List Ent} {Q : VK} (w : Wld K Hb H σ vs e fr)
    (hk : ∀ m e1, d e = .ok m e1 → ∀ v Hb1 H1, Wld K Hb1 H1 σ vs e1 ((some v, m) :: fr) → Q v H1) (hx : ∀ x e1, d e = .exc x e1 → ∀ c dd Hb1 H1, Wld K Hb1 H1 σ vs e1 fr → ExcAt H1 x c dd → E c dd H1) (hb : d e ≠ .bad) : t σ H Q := by
  refine h σ vs Hb H e fr Q w ?_
  cases q : d e with
  | ok m e1 => exact hk m e1 q
  | exc x e1 => exact hx x e1 q
  | bad => exact (hb q).elim
theorem SimT.run {t : TT} {d : DT} (h : SimT K E t d) {σ : L2.St} {vs : List V} {Hb H : Hp} {e : Env} {fr : List Ent} {Q : Bool → Hp → Prop} (w : Wld K Hb H σ vs e fr)
    (hk : ∀ b e1, d e = .ok b e1 → ∀ Hb1 H1, Wld K Hb1 H1 σ vs e1 fr → Q b H1) (hx : ∀ x e1, d e = .exc x e1 → ∀ c dd Hb1 H1, Wld K Hb1 H1 σ vs e1 fr → ExcAt H1 x c dd → E c dd H1) (hb : d e ≠ .bad) : t σ H Q := by
  refine h σ vs Hb H e fr Q w ?_
  cases q : d e with
  | ok m e1 => exact hk m e1 q
  | exc x e1 => exact hx x e1 q
  | bad => exact (hb q).elim

/-! ### constants, names -/
def cC (m : M) : DE := fun e => .ok m e
theorem se_int {i : Int} : SimE K E (tC (.int i)) (cC (.val (.int i))) := fun σ vs Hb H e fr Q w h => h (.int i) Hb H (w.back (w.own.val (.int i)))
theorem se_str {x : Str} : SimE K E (tC (.str x)) (cC (.val (.str x))) := fun σ vs Hb H e fr Q w h => h (.str x) Hb H (w.back (w.own.val (.str x)))
theorem se_bl {b : Bool} : SimE K E (tC (.bl b)) (cC (.val (.bool b))) := fun σ vs Hb H e fr Q w h => h (.bl b) Hb H (w.back (w.own.val (.bl b)))
theorem se_non : SimE K E (tC .non) (cC (.val .none)) := fun σ vs Hb H e fr Q w h => h .non Hb H (w.back (w.own.val .non))
theorem se_raw {v : V} : SimE K E (tC v) (cC (.raw v)) := fun σ vs Hb H e fr Q w h => h v Hb H (w.back w.own.raw)
/-- a name, its content copied -/
def cV (i : Nat) : DE := fun e => match e.get i with
  | .fl (.val d) => .ok (.val d) e
  | .fl (.raw v) => .ok (.raw v) e
  | _ => .bad
theorem se_v {i : Nat} : SimE K E (tVar i) (cV i) := by
  intro σ vs Hb H e fr Q w h
  have h' : PostE K E σ vs fr Q (match e.get i with
    | .fl (.val d) => .ok (.val d) e
    | .fl (.raw v) => .ok (.raw v) e
    | _ => .bad) := h
  cases q : e.get i with
  | ins C fs => rw [q] at h'; exact h'.elim
  | fl x =>
    rw [q] at h'
    cases x with
    | tr t => exact h'.elim
    | val d =>
      obtain ⟨v, hv, f, r⟩ := w.slot (i := i) (by rw [q]; rfl)
      rw [q] at r
      exact ⟨v, hv, h' v Hb H (w.back (w.own.val r.2))⟩
    | raw u =>
      obtain ⟨v, hv, f, r⟩ := w.slot (i := i) (by rw [q]; rfl)
      rw [q] at r
      have : v = u := r.2
      subst this
      exact ⟨v, hv, h' v Hb H (w.back w.own.raw)⟩
    | lst ds => exact h'.elim
    | dct ds => exact h'.elim
    | fact p => exact h'.elim
    | hole => exact h'.elim
/-- a content taken out -/
theorem Wld.take {Hb H : Hp} {σ : L2.St} {vs : List V} {e : Env} {fr : List Ent} (w : Wld K Hb H σ vs e fr) {i : Nat} (hm : (e.get i).isHole = false) : ∃ v, σ[i]? = some (some v) ∧ Wld K Hb H σ vs (e.put i .hole) ((some v, e.get i) :: fr) := by
  obtain ⟨v, R, h1, h2, h3⟩ := w.at hm
  obtain ⟨p, l1, l2, b⟩ := h3 .hole
  refine ⟨v, h1, l1, l2, b, ?_⟩
  have o := (w.own.perm (h2 fr))
  have o2 : Own K Hb H ((some v, .hole) :: (R ++ ((some v, e.get i) :: fr))) := Own.hole (o.perm (by exact List.perm_middle.symm))
  exact o2.perm (p _)
/-- a content put -/
theorem Wld.put {Hb H : Hp} {σ : L2.St} {vs : List V} {e : Env} {fr : List Ent} {v : V} {m : M} (w : Wld K Hb H σ vs e ((some v, m) :: fr)) {i : Nat} (hv : σ[i]? = some (some v)) : Wld K Hb H σ vs (e.put i m) fr := by
  have hi : i < e.s.length := by
    rw [← w.ls]
    exact (List.getElem?_eq_some_iff.mp hv).1
  cases q : getS e.s i with
  | own x =>
    have ep : e.put i m = e.asg i m := by unfold Env.put Env.asg; rw [q]
    have es : σ.set i (some v) = σ := by
      apply List.ext_getElem?
      intro j
      by_cases z : i = j
      · subst z; rw [List.getElem?_set_self (by rw [w.ls]; exact hi), hv]
      · rw [List.getElem?_set_ne z]
    have := w.asg i
    rw [es] at this
    rw [ep]; exact this
  | bor k =>
    have ep : e.put i m = ⟨e.s, e.a.set k m⟩ := by unfold Env.put; rw [q]
    obtain ⟨v', h1, h2⟩ := w.bor i k q
    rw [hv] at h2
    have : v = v' := Option.some.inj (Option.some.inj h2)
    subst this
    have hk : k < e.a.length := by rw [← w.la]; exact (List.getElem?_eq_some_iff.mp h1).1
    obtain ⟨P, R, u, e0, e1, e2⟩ := zipA_at w.la hk
    have : u = v := by rw [h1] at e0; exact (Option.some.inj e0).symm
    subst this
    rw [ep]
    refine ⟨w.ls, by simp [w.la], w.bor, ?_⟩
    show Own K Hb H (entsS σ e.s ++ (entsA vs (e.a.set k m) ++ fr))
    have h := w.front
    rw [show e.ents σ vs fr = entsS σ e.s ++ (entsA vs e.a ++ fr) from rfl, e1] at h
    rw [e2]
    have p1 : (((some u, m) : Ent) :: (entsS σ e.s ++ ((P ++ (some u, getM e.a k) :: R) ++ fr))).Perm ((some u, getM e.a k) :: (entsS σ e.s ++ ((P ++ (some u, m) :: R) ++ fr))) := by
      have e3 : (entsS σ e.s ++ ((P ++ (some u, getM e.a k) :: R) ++ fr)) = (entsS σ e.s ++ P) ++ (some u, getM e.a k) :: (R ++ fr) := by simp
      have e4 : (entsS σ e.s ++ ((P ++ (some u, m) :: R) ++ fr)) = (entsS σ e.s ++ P) ++ (some u, m) :: (R ++ fr) := by simp
      rw [e3, e4]
      exact ((List.Perm.cons _ List.perm_middle).trans (List.Perm.swap _ _ _)).trans (List.Perm.cons _ List.perm_middle.symm)
    exact (h.perm p1).tail
/-- a name whose content goes along (it is not asked again) -/
def cMov (i : Nat) : DE := fun e => match getS e.s i with
  | .own m => (match m.isHole with
    | true => .bad
    | false => .ok m (e.asg i .hole))
  | .bor _ => .bad
theorem se_mov {i : Nat} : SimE K E (tVar i) (cMov i) := by
  intro σ vs Hb H e fr Q w h
  have h' : PostE K E σ vs fr Q (match getS e.s i with
    | .own m => (match m.isHole with
      | true => .bad
      | false => .ok m (e.asg i .hole))
    | .bor _ => .bad) := h
  cases q : getS e.s i with
  | bor k => rw [q] at h'; exact h'.elim
  | own m =>
    rw [q] at h'
    have h2 : PostE K E σ vs fr Q (match m.isHole with
      | true => .bad
      | false => .ok m (e.asg i .hole)) := h'
    have eg : e.get i = m := by unfold Env.get; rw [q]
    cases q2 : m.isHole with
    | true => rw [q2] at h2; exact h2.elim
    | false =>
      rw [q2] at h2
      obtain ⟨v, hv, w2⟩ := w.take (i := i) (by rw [eg]; exact q2)
      have ep : e.put i .hole = e.asg i .hole := by unfold Env.put Env.asg; rw [q]
      rw [ep, eg] at w2
      exact ⟨v, hv, h2 v Hb H w2⟩
/-! ### what stands still from now on -/
def M.fz : M → Option PyData
  | .fl (.val d) => some d
  | .fl (.lst ds) => some (.list ds)
  | .fl (.tr t) => t.fz
  | _ => none
def cFz (d : DE) : DE := fun e => (d e).bind fun m e1 => match m.fz with
  | some x => .ok (.val x) e1
  | none => .bad
theorem Own.freeze {Hb H : Hp} {v : V} {m : M} {x : PyData} {es : List Ent} (o : Own K Hb H ((some v, m) :: es)) (h : m.fz = some x) : ∃ Hb', Own K Hb' H ((some v, .val x) :: es) := by
  cases m with
  | ins C fs => cases h
  | fl y =>
    cases y with
    | tr t =>
      have h' : t.fz = some x := h
      obtain ⟨s, F, hF⟩ := o
      cases hF with
      | cons r t0 d0 =>
        rename_i f g
        have r' : RT K Hb H v t f := r
        have th := RT.there r'
        have hk : Keep f Hb H (fun b => if b ∈ f then H b else Hb b) H := by
          refine ⟨fun b u e => ?_, fun _ _ e _ => e, fun b u e => ?_, fun b e1 e2 => ?_⟩
          · show (if b ∈ f then H b else Hb b) = _
            by_cases z : b ∈ f
            · rw [(th b z).2] at e; cases e
            · rw [if_neg z]; exact e
          · have e' : (if b ∈ f then H b else Hb b) = some u := e
            by_cases z : b ∈ f
            · rw [if_pos z] at e'; exact e'
            · rw [if_neg z] at e'; exact s b u e'
          · have e' : (if b ∈ f then H b else Hb b) ≠ none := e2
            by_cases z : b ∈ f
            · exact .inr z
            · rw [if_neg z] at e'; exact absurd e1 e'
        refine ⟨_, hk.sub, _, .cons (f := []) ⟨rfl, RT.dp hk.bb r' (fun p hp => if_pos hp) h'⟩ (t0.keep hk d0) (fun p hp => by cases hp)⟩
    | val d => cases h; exact ⟨Hb, o⟩
    | raw d => cases h
    | dct d => cases h
    | fact p => cases h
    | hole => cases h
    | lst ds =>
      cases h
      obtain ⟨f, a, xs, rfl, rfl, e3, e4, e5⟩ := o.head
      refine ⟨upd Hb a (.lst xs), o.swap fun f r => ?_⟩
      obtain ⟨b, ys, e1, e2, e3', e4', e5'⟩ := r
      cases e1
      have s2 : Same Hb (upd Hb a (.lst xs)) := fun b o e => by rw [upd_ne (ne_of_none e e3)]; exact e
      refine ⟨[], ⟨s2, fun _ _ e _ => e, fun b u e => ?_, fun b h1 h2 => ?_⟩, ⟨rfl, .lst (.inl (.inl upd_same)) (DpAll.same s2 e5)⟩, fun p hp => by cases hp⟩
      · by_cases z : b = a
        · subst z; rw [upd_same] at e; rw [← e]; exact e4
        · rw [upd_ne z] at e; exact o.1 _ _ e
      · by_cases z : b = a
        · subst z; right; rw [e2]; simp
        · rw [upd_ne z] at h2; exact absurd h1 h2
theorem se_fz {t : TE} {d : DE} (h : SimE K E t d) : SimE K E t (cFz d) := by
  intro σ vs Hb H e fr Q w hq
  refine h.run w (fun m e1 q v Hb1 H1 w1 => ?_) (fun x e1 q => ?_) fun q => ?_
  · have h1 : PostE K E σ vs fr Q ((d e).bind fun m e1 => match m.fz with
      | some x => .ok (.val x) e1
      | none => .bad) := hq
    rw [q] at h1
    have h2 : PostE K E σ vs fr Q (match m.fz with
      | some x => .ok (.val x) e1
      | none => .bad) := h1
    cases q2 : m.fz with
    | none => rw [q2] at h2; exact h2.elim
    | some x =>
      rw [q2] at h2
      obtain ⟨Hb', o⟩ := w1.front.freeze q2
      exact h2 v Hb' H1 (w1.drop1.back o)
  · have h1 : PostE K E σ vs fr Q ((d e).bind _) := hq
    rw [q] at h1
    exact h1
  · have h1 : PostE K E σ vs fr Q ((d e).bind _) := hq
    rw [q] at h1
    exact h1
/-! ### displays -/
def valsOf : List M → Option (List PyData)
  | [] => some []
  | .fl (.val d) :: ms => match valsOf ms with
    | some ds => some (d :: ds)
    | none => none
  | _ => none
theorem reps_vals {Hb H : Hp} : ∀ {us : List V} {ms : List M} {ds : List PyData}, Reps K Hb H us ms → valsOf ms = some ds → DpAll K Hb us ds
  | _, _, _, .nil, h => by cases h; exact .nil
  | _, m :: ms, ds, .cons ⟨f, r⟩ t, h => by
    cases m with
    | ins C fs => cases h
    | fl x =>
      cases x with
      | val d =>
        have h' : (match valsOf ms with
          | some ds => some (d :: ds)
          | none => none) = some ds := h
        cases q : valsOf ms with
        | none => rw [q] at h'; cases h'
        | some es => rw [q] at h'; cases h'; exact .cons r.2 (reps_vals t q)
      | _ => cases h
theorem DpAll.length {H : Hp} : ∀ {us : List V} {ds : List PyData}, DpAll K H us ds → us.length = ds.length
  | _, _, .nil => rfl
  | _, _, .cons _ t => by simp [DpAll.length t]
theorem AOk.length {σ : L2.St} {e : Env} : ∀ {os : List OpD} {us : List V} {ms : List M} {es : List Ent}, AOk σ e os us ms es → us.length = os.length ∧ ms.length = os.length
  | _, _, _, _, .nil => ⟨rfl, rfl⟩
  | _, _, _, _, .e a => by obtain ⟨h1, h2⟩ := AOk.length a; simp [h1, h2]
  | _, _, _, _, .v _ a => by obtain ⟨h1, h2⟩ := AOk.length a; simp [h1, h2]
def gTupM (ms : List M) : Option M := match valsOf ms with
  | some ds => some (.val (.tuple ds))
  | none => none
def gLstM (ms : List M) : Option M := match valsOf ms with
  | some ds => some (.lst ds)
  | none => none
theorem line_big {n : Nat} (h : n ≤ 16777216) : n ≤ sizeLine := by rw [sizeLine_eq]; exact h
theorem se_tup {t : TA} {os : List OpD} (h : SimA K E t os) (hl : os.length ≤ 1000) : SimE K E (tTupN t) (cOp gTupM os) := by
  intro σ vs Hb H e fr Q w hq
  refine h σ vs Hb H e fr _ w ?_
  have P : Prim K (fun us H Q => us.length ≤ 1000 → us.length ≤ sizeLine ∧ NewT H us Q) gTupM := by
    intro us ms m Hb H es Q hg o r k hl
    have hg' : (match valsOf ms with
      | some ds => some (M.val (.tuple ds))
      | none => none) = some m := hg
    cases q : valsOf ms with
    | none => rw [q] at hg'; cases hg'
    | some ds =>
      rw [q] at hg'; cases hg'
      refine ⟨line_big (by omega), fun p ob hb hp => k _ _ _ (own_tup o hb hp (reps_vals r q))⟩
  have := prim_end (os := os) P hq
  cases q : evA os e with
  | bad => rw [q] at this; exact this.elim
  | exc x e1 => rw [q] at this; exact this
  | ok ms e1 =>
    rw [q] at this
    intro us es Hb1 H1 a w1
    exact this us es Hb1 H1 a w1 (by rw [(AOk.length a).1]; exact hl)
theorem se_lst {t : TA} {os : List OpD} (h : SimA K E t os) (hl : os.length ≤ 1000) : SimE K E (tLst t) (cOp gLstM os) := by
  intro σ vs Hb H e fr Q w hq
  refine h σ vs Hb H e fr _ w ?_
  have P : Prim K (fun us H Q => us.length ≤ 1000 → us.length ≤ sizeLine ∧ ∀ p, H p = none → Q (.ref p) (upd H p (.lst us))) gLstM := by
    intro us ms m Hb H es Q hg o r k hl
    have hg' : (match valsOf ms with
      | some ds => some (M.lst ds)
      | none => none) = some m := hg
    cases q : valsOf ms with
    | none => rw [q] at hg'; cases hg'
    | some ds =>
      rw [q] at hg'; cases hg'
      refine ⟨line_big (by omega), fun p hp => k _ _ _ (o.new (f := [p]) (grow_upd o.1 hp) ⟨p, us, rfl, rfl, o.1.free hp, upd_same, reps_vals r q⟩ fun z hz => ?_)⟩
      have : z = p := by simpa using hz
      subst this; exact hp
  have := prim_end (os := os) P hq
  cases q : evA os e with
  | bad => rw [q] at this; exact this.elim
  | exc x e1 => rw [q] at this; exact this
  | ok ms e1 =>
    rw [q] at this
    intro us es Hb1 H1 a w1
    exact this us es Hb1 H1 a w1 (by rw [(AOk.length a).1]; exact hl)
/-! ### tests -/
def cB (d : DE) : DT := fun e => (d e).bind fun m e1 => match m with
  | .fl (.val (.bool b)) => .ok b e1
  | _ => .bad
theorem dp_bool {H : Hp} {v : V} {b : Bool} (h : Dp K H v (.bool b)) : v = .bl b := by cases h; rfl
theorem dp_int {H : Hp} {v : V} {b : Int} (h : Dp K H v (.int b)) : v = .int b := by cases h; rfl
theorem dp_str {H : Hp} {v : V} {b : Str} (h : Dp K H v (.str b)) : v = .str b := by cases h; rfl
theorem dp_none {H : Hp} {v : V} (h : Dp K H v .none) : v = .non := by cases h; rfl
theorem dp_tup {H : Hp} {v : V} {ds : List PyData} (h : Dp K H v (.tuple ds)) : ∃ a xs, v = .ref a ∧ RdT H a xs ∧ DpAll K H xs ds := by cases h with | tup h a => exact ⟨_, _, rfl, h, a⟩
theorem dp_lst {H : Hp} {v : V} {ds : List PyData} (h : Dp K H v (.list ds)) : ∃ a xs, v = .ref a ∧ SqL K H a xs ∧ DpAll K H xs ds := by cases h with | lst h a => exact ⟨_, _, rfl, h, a⟩
theorem st_b {t : TE} {d : DE} (h : SimE K E t d) : SimT K E (fun σ H Q => t σ H fun x H1 => ∃ c, x = .bl c ∧ Q c H1) (cB d) := by
  intro σ vs Hb H e fr Q w hq
  have hq' : PostT K E σ vs fr Q ((d e).bind fun m e1 => match m with
    | .fl (.val (.bool b)) => .ok b e1
    | _ => .bad) := hq
  rcases hq'.bind with ⟨m, e1, q, h1⟩ | ⟨x, e1, q, h1⟩
  · refine h.run w (fun m' e1' q' v Hb1 H1 w1 => ?_) (fun x e1' q' => by rw [q] at q'; cases q') (by rw [q]; simp)
    rw [q] at q'; cases q'
    cases m with
    | ins C fs => exact h1.elim
    | fl y =>
      cases y with
      | val dd =>
        cases dd with
        | bool b =>
          obtain ⟨f, r⟩ := w1.front.head
          exact ⟨b, dp_bool r.2, h1 Hb1 H1 w1.drop1⟩
        | _ => exact h1.elim
      | _ => exact h1.elim
  · exact h.run w (fun m' e1' q' => by rw [q] at q'; cases q') (fun x' e1' q' => by rw [q] at q'; cases q'; exact h1) (by rw [q]; simp)
theorem st_val {t : TE} {d : DE} (h : SimE K E t d) : SimT K E (tB t) (cB d) := st_b h
theorem st_test {t : TE} {d : DE} (h : SimE K E t d) : SimT K E (tTest t) (cB d) := st_b h
def cAnd (a b : DT) : DT := fun e => (a e).bind fun c e1 => match c with
  | true => b e1
  | false => .ok false e1
def cOr (a b : DT) : DT := fun e => (a e).bind fun c e1 => match c with
  | true => .ok true e1
  | false => b e1
def cNot (a : DT) : DT := fun e => (a e).bind fun c e1 => .ok (!c) e1
theorem st_and {t u : TT} {a b : DT} (h1 : SimT K E t a) (h2 : SimT K E u b) : SimT K E (tAnd t u) (cAnd a b) := by
  intro σ vs Hb H e fr Q w hq
  rcases PostT.bind hq with ⟨c, e1, q, h⟩ | ⟨x, e1, q, h⟩
  · refine h1.run w (fun m' e1' q' Hb1 H1 w1 => ?_) (fun x e1' q' => by rw [q] at q'; cases q') (by rw [q]; simp)
    rw [q] at q'; cases q'
    cases c with
    | true => exact iteT (h2 σ vs Hb1 H1 e1 fr Q w1 h)
    | false => exact iteF (h Hb1 H1 w1)
  · exact h1.run w (fun m' e1' q' => by rw [q] at q'; cases q') (fun x' e1' q' => by rw [q] at q'; cases q'; exact h) (by rw [q]; simp)
theorem st_or {t u : TT} {a b : DT} (h1 : SimT K E t a) (h2 : SimT K E u b) : SimT K E (tOr t u) (cOr a b) := by
  intro σ vs Hb H e fr Q w hq
  rcases PostT.bind hq with ⟨c, e1, q, h⟩ | ⟨x, e1, q, h⟩
  · refine h1.run w (fun m' e1' q' Hb1 H1 w1 => ?_) (fun x e1' q' => by rw [q] at q'; cases q') (by rw [q]; simp)
    rw [q] at q'; cases q'
    cases c with
    | true => exact iteT (h Hb1 H1 w1)
    | false => exact iteF (h2 σ vs Hb1 H1 e1 fr Q w1 h)
  · exact h1.run w (fun m' e1' q' => by rw [q] at q'; cases q') (fun x' e1' q' => by rw [q] at q'; cases q'; exact h) (by rw [q]; simp)
theorem st_not {t : TT} {a : DT} (h1 : SimT K E t a) : SimT K E (tNot t) (cNot a) := by
  intro σ vs Hb H e fr Q w hq
  rcases PostT.bind hq with ⟨c, e1, q, h⟩ | ⟨x, e1, q, h⟩
  · refine h1.run w (fun m' e1' q' Hb1 H1 w1 => ?_) (fun x e1' q' => by rw [q] at q'; cases q') (by rw [q]; simp)
    rw [q] at q'; cases q'
    exact h Hb1 H1 w1
  · exact h1.run w (fun m' e1' q' => by rw [q] at q'; cases q') (fun x' e1' q' => by rw [q] at q'; cases q'; exact h) (by rw [q]; simp)
/-- a if c else b -/
def cIf (c : DT) (a b : DE) : DE := fun e => (c e).bind fun k e1 => match k with
  | true => a e1
  | false => b e1
theorem se_if {c : TT} {ta tb : TE} {dc : DT} {a b : DE} (h : SimT K E c dc) (h1 : SimE K E ta a) (h2 : SimE K E tb b) : SimE K E (tIf c ta tb) (cIf dc a b) := by
  intro σ vs Hb H e fr Q w hq
  rcases PostE.bind hq with ⟨k, e1, q, hh⟩ | ⟨x, e1, q, hh⟩
  · refine h.run w (fun m' e1' q' Hb1 H1 w1 => ?_) (fun x e1' q' => by rw [q] at q'; cases q') (by rw [q]; simp)
    rw [q] at q'; cases q'
    cases k with
    | true => exact iteT (h1 σ vs Hb1 H1 e1 fr Q w1 hh)
    | false => exact iteF (h2 σ vs Hb1 H1 e1 fr Q w1 hh)
  · exact h.run w (fun m' e1' q' => by rw [q] at q'; cases q') (fun x' e1' q' => by rw [q] at q'; cases q'; exact hh) (by rw [q]; simp)
/-- and, or as values, all but the last True or False -/
def cAndV (a b : DE) : DE := fun e => (cB a e).bind fun k e1 => match k with
  | true => b e1
  | false => .ok (.val (.bool false)) e1
def cOrV (a b : DE) : DE := fun e => (cB a e).bind fun k e1 => match k with
  | true => .ok (.val (.bool true)) e1
  | false => b e1
theorem se_and {ta tb : TE} {a b : DE} (h1 : SimE K E ta a) (h2 : SimE K E tb b) : SimE K E (tAndV ta tb) (cAndV a b) := by
  intro σ vs Hb H e fr Q w hq
  refine (st_b h1).run (Q := fun c H1 => if c = true then tb σ H1 Q else Q (.bl false) H1) w ?_ ?_ ?_
  · intro k e1 q Hb1 H1 w1
    have hh : PostE K E σ vs fr Q ((cB a e).bind _) := hq
    rw [q] at hh
    cases k with
    | true => exact iteT (h2 σ vs Hb1 H1 e1 fr Q w1 hh)
    | false => exact iteF (hh (.bl false) Hb1 H1 (w1.back (w1.own.val (.bl false))))
  · intro x e1 q
    have hh : PostE K E σ vs fr Q ((cB a e).bind _) := hq
    rw [q] at hh; exact hh
  · intro q
    have hh : PostE K E σ vs fr Q ((cB a e).bind _) := hq
    rw [q] at hh; exact hh
theorem se_or {ta tb : TE} {a b : DE} (h1 : SimE K E ta a) (h2 : SimE K E tb b) : SimE K E (tOrV ta tb) (cOrV a b) := by
  intro σ vs Hb H e fr Q w hq
  refine (st_b h1).run (Q := fun c H1 => if c = true then Q (.bl true) H1 else tb σ H1 Q) w ?_ ?_ ?_
  · intro k e1 q Hb1 H1 w1
    have hh : PostE K E σ vs fr Q ((cB a e).bind _) := hq
    rw [q] at hh
    cases k with
    | true => exact iteT (hh (.bl true) Hb1 H1 (w1.back (w1.own.val (.bl true))))
    | false => exact iteF (h2 σ vs Hb1 H1 e1 fr Q w1 hh)
  · intro x e1 q
    have hh : PostE K E σ vs fr Q ((cB a e).bind _) := hq
    rw [q] at hh; exact hh
  · intro q
    have hh : PostE K E σ vs fr Q ((cB a e).bind _) := hq
    rw [q] at hh; exact hh
def cNotV (a : DE) : DE := fun e => (cB a e).bind fun k e1 => .ok (.val (.bool !k)) e1
theorem se_not {ta : TE} {a : DE} (h1 : SimE K E ta a) : SimE K E (tNotV ta) (cNotV a) := by
  intro σ vs Hb H e fr Q w hq
  have hh : PostE K E σ vs fr Q ((cB a e).bind fun k e1 => .ok (.val (.bool !k)) e1) := hq
  refine (st_b h1).run (Q := fun c H1 => Q (.bl !c) H1) w ?_ ?_ ?_
  · intro k e1 q Hb1 H1 w1
    rw [q] at hh
    exact hh (.bl !k) Hb1 H1 (w1.back (w1.own.val (.bl !k)))
  · intro x e1 q
    rw [q] at hh; exact hh
  · intro q
    rw [q] at hh; exact hh
/-- truth of data -/
def truD : PyData → Option Bool
  | .none => some false
  | .bool b => some b
  | .int i => some (i != 0)
  | .str x => if x.length ≤ 16777216 then some ((x.length : Int) != 0) else none
  | .list ds => some (!ds.isEmpty)
  | .tuple ds => some (!ds.isEmpty)
  | .dict _ => none
theorem tru_of {Hb H : Hp} {v : V} {d : PyData} {b : Bool} (h : truD d = some b) (r : Dp K H v d) : TruV K v H b := by
  cases d with
  | none => cases h; rw [dp_none r]; rfl
  | bool k => cases h; rw [dp_bool r]; rfl
  | int i => cases h; rw [dp_int r]; rfl
  | str x =>
    have h' : (if x.length ≤ 16777216 then some ((x.length : Int) != 0) else none) = some b := h
    by_cases z : x.length ≤ 16777216
    · rw [if_pos z] at h'; cases h'; rw [dp_str r]; exact ⟨line_big z, rfl⟩
    · rw [if_neg z] at h'; cases h'
  | list ds =>
    cases h
    obtain ⟨a, xs, rfl, h1, h2⟩ := dp_lst r
    refine .inl ⟨xs, h1, ?_⟩
    cases h2 <;> rfl
  | tuple ds =>
    cases h
    obtain ⟨a, xs, rfl, h1, h2⟩ := dp_tup r
    refine .inr (.inl ⟨xs, h1.sq, ?_⟩)
    cases h2 <;> rfl
  | dict _ => cases h
/-- x or y by truth, x data -/
def cOrT (a b : DE) : DE := fun e => (a e).bind fun m e1 => match m with
  | .fl (.val d) => (match truD d with
    | some true => .ok (.val d) e1
    | some false => b e1
    | none => .bad)
  | _ => .bad
theorem se_orT {ta tb : TE} {a b : DE} (h1 : SimE K E ta a) (h2 : SimE K E tb b) : SimE K E (tOrT K ta tb) (cOrT a b) := by
  intro σ vs Hb H e fr Q w hq
  have hq' : PostE K E σ vs fr Q ((a e).bind fun m e1 => match m with
    | .fl (.val d) => (match truD d with
      | some true => .ok (.val d) e1
      | some false => b e1
      | none => .bad)
    | _ => .bad) := hq
  rcases hq'.bind with ⟨m, e1, q, h⟩ | ⟨x, e1, q, h⟩
  · refine h1.run w (fun m' e1' q' v Hb1 H1 w1 => ?_) (fun x e1' q' => by rw [q] at q'; cases q') (by rw [q]; simp)
    rw [q] at q'; cases q'
    cases m with
    | ins C fs => exact h.elim
    | fl y =>
      cases y with
      | val d =>
        obtain ⟨f, r⟩ := w1.front.head
        have h3 : PostE K E σ vs fr Q (match truD d with
          | some true => .ok (.val d) e1
          | some false => b e1
          | none => .bad) := h
        cases z : truD d with
        | none => rw [z] at h3; exact h3.elim
        | some k =>
          rw [z] at h3
          refine ⟨k, tru_of (Hb := Hb1) z (Dp.same w1.same r.2), ?_⟩
          cases k with
          | true => exact iteT (h3 v Hb1 H1 w1)
          | false => exact iteF (h2 σ vs Hb1 H1 e1 fr Q w1.drop1 h3)
      | _ => exact h.elim
  · exact h1.run w (fun m' e1' q' => by rw [q] at q'; cases q') (fun x' e1' q' => by rw [q] at q'; cases q'; exact h) (by rw [q]; simp)
/-- a op b op' c, of whole numbers -/
def cChain (p p' : Int → Int → Bool) (a b c : DE) : DE := fun e => (a e).bind fun x e1 => (b e1).bind fun y e2 => match x, y with
  | .fl (.val (.int i)), .fl (.val (.int j)) => (match p i j with
    | true => (c e2).bind fun z e3 => (match z with
      | .fl (.val (.int k)) => .ok (.val (.bool (p' j k))) e3
      | _ => .bad)
    | false => .ok (.val (.bool false)) e2)
  | _, _ => .bad
theorem se_chain {p p' : Int → Int → Bool} {ta tb tc : TE} {a b c : DE} (h1 : SimE K E ta a) (h2 : SimE K E tb b) (h3 : SimE K E tc c) :
    SimE K E (tChain (rI0 fun i j => .bl (p i j)) (rI0 fun i j => .bl (p' i j)) ta tb tc) (cChain p p' a b c) := by
  intro σ vs Hb H e fr Q w hq
  have hq1 : PostE K E σ vs fr Q ((a e).bind fun x e1 => (b e1).bind fun y e2 => match x, y with
    | .fl (.val (.int i)), .fl (.val (.int j)) => (match p i j with
      | true => (c e2).bind fun z e3 => (match z with
        | .fl (.val (.int k)) => .ok (.val (.bool (p' j k))) e3
        | _ => .bad)
      | false => .ok (.val (.bool false)) e2)
    | _, _ => .bad) := hq
  rcases hq1.bind with ⟨x, e1, q1, g1⟩ | ⟨x, e1, q1, g1⟩
  · refine h1.run w (fun m e1' q' v Hb1 H1 w1 => ?_) (fun x e1' q' => by rw [q1] at q'; cases q') (by rw [q1]; simp)
    rw [q1] at q'; cases q'
    rcases g1.bind with ⟨y, e2, q2, g2⟩ | ⟨y, e2, q2, g2⟩
    · refine h2.run w1 (fun m e2' q' u Hb2 H2 w2 => ?_) (fun x e1' q' => by rw [q2] at q'; cases q') (by rw [q2]; simp)
      rw [q2] at q'; cases q'
      obtain ⟨f2, r2⟩ := w2.front.head
      obtain ⟨f1, r1⟩ := w2.drop1.front.head
      split at g2
      · rename_i i j
        cases dp_int r1.2
        cases dp_int r2.2
        have w3 : Wld K Hb2 H2 σ vs e2 fr := w2.drop1.drop1
        refine ⟨i, j, rfl, rfl, p i j, rfl, ?_⟩
        cases q3 : p i j with
        | false =>
          rw [q3] at g2
          exact iteF (g2 (.bl false) Hb2 H2 (w3.back (w3.own.val (.bl false))))
        | true =>
          rw [q3] at g2
          refine iteT ?_
          rcases PostE.bind g2 with ⟨z, e3, q4, g4⟩ | ⟨z, e3, q4, g4⟩
          · refine h3.run w3 (fun m e3' q' u Hb3 H3 w4 => ?_) (fun x e1' q' => by rw [q4] at q'; cases q') (by rw [q4]; simp)
            rw [q4] at q'; cases q'
            obtain ⟨f3, r3⟩ := w4.front.head
            split at g4
            · rename_i k
              cases dp_int r3.2
              exact ⟨j, k, rfl, rfl, g4 (.bl (p' j k)) Hb3 H3 (w4.drop1.back (w4.drop1.own.val (.bl _)))⟩
            · exact g4.elim
          · exact h3.run w3 (fun m' e1' q' => by rw [q4] at q'; cases q') (fun x' e1' q' => by rw [q4] at q'; cases q'; exact g4) (by rw [q4]; simp)
      · exact g2.elim
    · exact h2.run w1 (fun m' e1' q' => by rw [q2] at q'; cases q') (fun x' e1' q' => by rw [q2] at q'; cases q'; exact fun c d Hb H w2 => g2 c d Hb H w2.drop1) (by rw [q2]; simp)
  · exact h1.run w (fun m' e1' q' => by rw [q1] at q'; cases q') (fun x' e1' q' => by rw [q1] at q'; cases q'; exact g1) (by rw [q1]; simp)
end
end Sm

/-! Sim3: primitives. -/
namespace Sm
open PySem PySem.Spec PyProof.Rows L2
section
variable {K : PySem.W.Frag} {E : XK}
/-- operands looked at as data -/
def M.view : M → Option PyData
  | .fl (.val d) => some d
  | .fl (.lst ds) => some (.list ds)
  | _ => none
theorem view_dp {Hb H : Hp} {v : V} {m : M} {d : PyData} {f : List Addr} (s : Same Hb H) (r : RM K Hb H v m f) (h : m.view = some d) : Dp K H v d := by
  cases m with
  | ins C fs => cases h
  | fl x =>
    cases x with
    | val e => cases h; exact Dp.same s r.2
    | lst ds =>
      cases h
      obtain ⟨a, vs, rfl, rfl, e3, e4, e5⟩ := r
      exact .lst (.inl (.inl e4)) (DpAll.same s e5)
    | _ => cases h
theorem Paired.nilL {α β : Type} {F : α → β → Prop} {l : List α} (h : Paired F l []) : l = [] := by cases h; rfl
theorem Paired.consL {α β : Type} {F : α → β → Prop} {l : List α} {b : β} {bs : List β} (h : Paired F l (b :: bs)) : ∃ a as, l = a :: as ∧ F a b ∧ Paired F as bs := by
  cases h with | cons r t => exact ⟨_, _, rfl, r, t⟩
theorem reps1 {Hb H : Hp} {us : List V} {m : M} (r : Reps K Hb H us [m]) : ∃ u f, us = [u] ∧ RM K Hb H u m f := by
  obtain ⟨a, as, rfl, ⟨f, h1⟩, h2⟩ := Paired.consL r
  cases Paired.nilL h2
  exact ⟨a, f, rfl, h1⟩
theorem reps2 {Hb H : Hp} {us : List V} {m n : M} (r : Reps K Hb H us [m, n]) : ∃ u v f g, us = [u, v] ∧ RM K Hb H u m f ∧ RM K Hb H v n g := by
  obtain ⟨a, as, rfl, ⟨f, h1⟩, h2⟩ := Paired.consL r
  obtain ⟨b, bs, rfl, ⟨g, h3⟩, h4⟩ := Paired.consL h2
  cases Paired.nilL h4
  exact ⟨a, b, f, g, rfl, h1, h3⟩
/-- of two numbers -/
def gII (C : Int → Int → Bool) (f : Int → Int → PyData) : List M → Option M
  | [.fl (.val (.int i)), .fl (.val (.int j))] => match C i j with
    | true => some (.val (f i j))
    | false => none
  | _ => none
theorem gII_inv {C : Int → Int → Bool} {f : Int → Int → PyData} {ms : List M} {m : M} (h : gII C f ms = some m) : ∃ i j, ms = [.val (.int i), .val (.int j)] ∧ C i j = true ∧ m = .val (f i j) := by
  unfold gII at h
  split at h
  · rename_i i j
    split at h
    · rename_i q; cases h; exact ⟨i, j, rfl, q, rfl⟩
    · cases h
  · cases h
theorem prim_ii {C : Int → Int → Bool} {f : Int → Int → PyData} {r : R2} (h : ∀ i j H Q v, C i j = true → (∀ H', Dp K H' v (f i j)) → Q v H → r (.int i) (.int j) H Q) (hv : ∀ i j, ∃ v, ∀ H, Dp K H v (f i j)) : Prim K (r2L r) (gII C f) := by
  intro us ms m Hb H es Q hg o rp k
  obtain ⟨i, j, rfl, hc, rfl⟩ := gII_inv hg
  obtain ⟨u, v, f1, g1, rfl, r1, r2⟩ := reps2 rp
  cases dp_int r1.2
  cases dp_int r2.2
  obtain ⟨w, hw⟩ := hv i j
  exact h i j H Q w hc hw (k w Hb H (o.val (hw Hb)))
def gI (f : Int → Int → Int) : List M → Option M := gII (fun _ _ => true) fun i j => .int (f i j)
def gIB (f : Int → Int → Bool) : List M → Option M := gII (fun _ _ => true) fun i j => .bool (f i j)
theorem p_I0 {f : Int → Int → Int} : Prim K (r2L (rI0 fun i j => .int (f i j))) (gI f) :=
  prim_ii (fun i j H Q v _ hd hq => ⟨i, j, rfl, rfl, by have := dp_int (hd H); subst this; exact hq⟩) fun i j => ⟨.int (f i j), fun _ => .int _⟩
theorem p_IB {f : Int → Int → Bool} : Prim K (r2L (rI0 fun i j => .bl (f i j))) (gIB f) :=
  prim_ii (fun i j H Q v _ hd hq => ⟨i, j, rfl, rfl, by have := dp_bool (hd H); subst this; exact hq⟩) fun i j => ⟨.bl (f i j), fun _ => .bl _⟩
theorem p_I {C : Int → Int → Prop} {c : Int → Int → Bool} {f : Int → Int → Int} (hc : ∀ i j, c i j = true → C i j) : Prim K (r2L (rI C fun i j => .int (f i j))) (gII c fun i j => .int (f i j)) :=
  prim_ii (fun i j H Q v h hd hq => ⟨i, j, rfl, rfl, hc i j h, by have := dp_int (hd H); subst this; exact hq⟩) fun i j => ⟨.int (f i j), fun _ => .int _⟩
theorem p62 : (2 : Int) ^ 62 = 4611686018427387904 := by
  have : ((2 ^ 62 : Nat) : Int) = 4611686018427387904 := rfl
  rw [← this]; exact (Int.natCast_pow 2 62).symm
theorem p63 : (2 : Int) ^ 63 = 9223372036854775808 := by
  have : ((2 ^ 63 : Nat) : Int) = 9223372036854775808 := rfl
  rw [← this]; exact (Int.natCast_pow 2 63).symm
theorem p64 : (2 : Int) ^ 64 = 18446744073709551616 := by
  have : ((2 ^ 64 : Nat) : Int) = 18446744073709551616 := rfl
  rw [← this]; exact (Int.natCast_pow 2 64).symm
def okMul (i j : Int) : Bool := decide (i.natAbs < 9223372036854775808 ∨ j.natAbs < 9223372036854775808)
def okDiv (i j : Int) : Bool := decide (0 < j ∧ j.natAbs < 1073741824)
def okMod (_ j : Int) : Bool := decide (0 < j)
def okPow (i j : Int) : Bool := decide (0 ≤ j ∧ j.natAbs ≤ 1000000 ∧ i.natAbs < 18446744073709551616)
theorem p_mul : Prim K (r2L (rI CMul fun i j => .int (i * j))) (gII okMul fun i j => .int (i * j)) := p_I fun i j h => by
  have h' := of_decide_eq_true h
  unfold CMul; rw [p64]; omega
theorem p_div : Prim K (r2L (rI CDiv fun i j => .int (i / j))) (gII okDiv fun i j => .int (i / j)) := p_I fun i j h => by
  have h' := of_decide_eq_true h
  unfold CDiv; omega
theorem p_mod : Prim K (r2L (rI (fun _ j => 0 < j) fun i j => .int (i % j))) (gII okMod fun i j => .int (i % j)) := p_I fun _ _ h => of_decide_eq_true h
theorem p_pow : Prim K (r2L (rI CPow fun i j => .int (i ^ j.toNat))) (gII okPow fun i j => .int (i ^ j.toNat)) := p_I fun i j h => by
  have h' := of_decide_eq_true h
  unfold CPow; omega
def gU (f : Int → Int) : List M → Option M
  | [.fl (.val (.int i))] => some (.val (.int (f i)))
  | _ => none
theorem p_un {f : Int → Int} : Prim K (r1L (rU fun i => .int (f i))) (gU f) := by
  intro us ms m Hb H es Q hg o rp k
  unfold gU at hg
  split at hg
  · rename_i i
    cases hg
    obtain ⟨u, g, rfl, r⟩ := reps1 rp
    cases dp_int r.2
    exact ⟨i, rfl, k (.int (f i)) Hb H (o.val (.int _))⟩
  · cases hg
/-! ### == -/
def rEqU (K : PySem.W.Frag) : R2 := fun x y H Q => rEq x y H Q ∨ rEqD K x y H Q
def rNeU (K : PySem.W.Frag) : R2 := fun x y H Q => rNe x y H Q ∨ rNeD K x y H Q
theorem op_eqU {X : Cx} (hu : X.A.units + 64 < cLine) : OpR X (compareOp .Eq) (rEqU X.K) := by
  intro pins s σ H x y v u Q I rx ry h
  rcases h with h | h
  · exact op_eq pins s σ H x y v u Q I rx ry h
  · exact op_eqD hu pins s σ H x y v u Q I rx ry h
theorem op_neU {X : Cx} (hu : X.A.units + 64 < cLine) : OpR X (compareOp .NotEq) (rNeU X.K) := by
  intro pins s σ H x y v u Q I rx ry h
  rcases h with h | h
  · exact op_ne pins s σ H x y v u Q I rx ry h
  · exact op_neD hu pins s σ H x y v u Q I rx ry h
def scalD : PyData → PyData → Bool
  | .none, .none => true | .none, .int _ => true | .int _, .none => true | .none, .bool _ => true | .bool _, .none => true | .none, .str _ => true | .str _, .none => true
  | .int _, .int _ => true | .bool _, .bool _ => true | .str _, .str _ => true
  | .int _, .str _ => true | .str _, .int _ => true | .bool _, .str _ => true | .str _, .bool _ => true
  | _, _ => false
theorem scal_of {H H' : Hp} {x y : V} {d e : PyData} (h : scalD d e = true) (r1 : Dp K H x d) (r2 : Dp K H' y e) : scal x y = true ∧ decide (x = y) = PyData.eqv d e := by
  cases d <;> cases e <;> first
    | (cases h; done)
    | (cases r1; cases r2; refine ⟨rfl, ?_⟩
       first
         | (simp [PyData.eqv]; done)
         | (simp only [PyData.eqv]; rw [Bool.eq_iff_iff]; simp))
def eqOk (d e : PyData) : Bool := scalD d e || (SeqAt.shaped d && SeqAt.shaped e)
def gEq : List M → Option M
  | [a, b] => match a.view, b.view with
    | some d, some e => (match eqOk d e with
      | true => some (.val (.bool (PyData.eqv d e)))
      | false => none)
    | _, _ => none
  | _ => none
def gNe : List M → Option M
  | [a, b] => match a.view, b.view with
    | some d, some e => (match eqOk d e with
      | true => some (.val (.bool (!PyData.eqv d e)))
      | false => none)
    | _, _ => none
  | _ => none
theorem p_eq : Prim K (r2L (rEqU K)) gEq := by
  intro us ms m Hb H es Q hg o rp k
  unfold gEq at hg
  split at hg
  · rename_i a b
    split at hg
    · rename_i d e h1 h2
      split at hg
      · rename_i hk
        cases hg
        obtain ⟨u, v, f1, g1, rfl, r1, r2⟩ := reps2 rp
        have d1 := view_dp o.1 r1 h1
        have d2 := view_dp o.1 r2 h2
        have hQ := k (.bl (PyData.eqv d e)) Hb H (o.val (.bl _))
        rcases Bool.or_eq_true_iff.mp hk with z | z
        · obtain ⟨s1, s2⟩ := scal_of z d1 d2
          exact .inl ⟨s1, by rw [s2]; exact hQ⟩
        · obtain ⟨z1, z2⟩ := Bool.and_eq_true_iff.mp z
          exact .inr ⟨d, e, Dp.lib d1, Dp.lib d2, z1, z2, hQ⟩
      · cases hg
    · cases hg
  · cases hg
theorem p_ne : Prim K (r2L (rNeU K)) gNe := by
  intro us ms m Hb H es Q hg o rp k
  unfold gNe at hg
  split at hg
  · rename_i a b
    split at hg
    · rename_i d e h1 h2
      split at hg
      · rename_i hk
        cases hg
        obtain ⟨u, v, f1, g1, rfl, r1, r2⟩ := reps2 rp
        have d1 := view_dp o.1 r1 h1
        have d2 := view_dp o.1 r2 h2
        have hQ := k (.bl (!PyData.eqv d e)) Hb H (o.val (.bl _))
        rcases Bool.or_eq_true_iff.mp hk with z | z
        · obtain ⟨s1, s2⟩ := scal_of z d1 d2
          exact .inl ⟨s1, by rw [s2]; exact hQ⟩
        · obtain ⟨z1, z2⟩ := Bool.and_eq_true_iff.mp z
          exact .inr ⟨d, e, Dp.lib d1, Dp.lib d2, z1, z2, hQ⟩
      · cases hg
    · cases hg
  · cases hg
/-! ### is None -/
def rIsN : R2 := fun x y H Q => y = .non ∧ Q (.bl (decide (x = .non))) H
def rNotN : R2 := fun x y H Q => y = .non ∧ Q (.bl (!decide (x = .non))) H
def isNone : PyData → Bool
  | .none => true
  | _ => false
def gIsN : List M → Option M
  | [.fl (.val d), .fl (.val .none)] => some (.val (.bool (isNone d)))
  | [.ins _ _, .fl (.val .none)] => some (.val (.bool false))
  | _ => none
def gNotN : List M → Option M
  | [.fl (.val d), .fl (.val .none)] => some (.val (.bool (!isNone d)))
  | [.ins _ _, .fl (.val .none)] => some (.val (.bool true))
  | _ => none
theorem none_dec {H : Hp} {v : V} {d : PyData} (h : Dp K H v d) : decide (v = .non) = isNone d := by
  cases h <;> simp [isNone]
theorem p_isN : Prim K (r2L rIsN) gIsN := by
  intro us ms m Hb H es Q hg o rp k
  unfold gIsN at hg
  split at hg
  · rename_i d
    cases hg
    obtain ⟨u, v, f1, g1, rfl, r1, r2⟩ := reps2 rp
    exact ⟨dp_none r2.2, by rw [none_dec r1.2]; exact k _ Hb H (o.val (.bl _))⟩
  · cases hg
    obtain ⟨u, v, f1, g1, rfl, r1, r2⟩ := reps2 rp
    obtain ⟨a, dx, ws, g, rfl, _⟩ := r1
    exact ⟨dp_none r2.2, by rw [show decide (V.ref a = .non) = false from rfl]; exact k _ Hb H (o.val (.bl _))⟩
  · cases hg
theorem p_notN : Prim K (r2L rNotN) gNotN := by
  intro us ms m Hb H es Q hg o rp k
  unfold gNotN at hg
  split at hg
  · rename_i d
    cases hg
    obtain ⟨u, v, f1, g1, rfl, r1, r2⟩ := reps2 rp
    exact ⟨dp_none r2.2, by rw [none_dec r1.2]; exact k _ Hb H (o.val (.bl _))⟩
  · cases hg
    obtain ⟨u, v, f1, g1, rfl, r1, r2⟩ := reps2 rp
    obtain ⟨a, dx, ws, g, rfl, _⟩ := r1
    exact ⟨dp_none r2.2, by rw [show decide (V.ref a = .non) = false from rfl]; exact k _ Hb H (o.val (.bl _))⟩
  · cases hg
/-! ### sequences -/
def seqOf : M → Option (List PyData)
  | .fl (.val (.tuple ds)) => some ds
  | .fl (.val (.list ds)) => some ds
  | .fl (.lst ds) => some ds
  | _ => none
theorem seq_kind {Hb H : Hp} {v : V} {m : M} {ds : List PyData} {f : List Addr} (s : Same Hb H) (r : RM K Hb H v m f) (h : seqOf m = some ds) :
    (m = .val (.tuple ds) ∧ ∃ a xs, v = .ref a ∧ RdT H a xs ∧ DpAll K Hb xs ds) ∨ ∃ a xs, v = .ref a ∧ SqL K H a xs ∧ DpAll K Hb xs ds := by
  unfold seqOf at h
  split at h
  · cases h; obtain ⟨a, xs, rfl, h1, h2⟩ := dp_tup r.2; exact .inl ⟨rfl, a, xs, rfl, h1.same s, h2⟩
  · cases h; obtain ⟨a, xs, rfl, h1, h2⟩ := dp_lst r.2; exact .inr ⟨a, xs, rfl, Sm.SqL.same s h1, h2⟩
  · cases h; obtain ⟨a, xs, rfl, rfl, e3, e4, e5⟩ := r; exact .inr ⟨a, xs, rfl, .inl (.inl e4), e5⟩
  · cases h
theorem seq_dp {Hb H : Hp} {v : V} {m : M} {ds : List PyData} {f : List Addr} (s : Same Hb H) (r : RM K Hb H v m f) (h : seqOf m = some ds) : ∃ a xs, v = .ref a ∧ (SqL K H a xs ∨ SqT K H a xs) ∧ DpAll K Hb xs ds := by
  rcases seq_kind s r h with ⟨_, a, xs, e, h1, h2⟩ | ⟨a, xs, e, h1, h2⟩
  · exact ⟨a, xs, e, .inr h1.sq, h2⟩
  · exact ⟨a, xs, e, .inl h1, h2⟩
theorem dpAll_get {H : Hp} : ∀ {xs : List V} {ds : List PyData} {i : Nat} {d : PyData}, DpAll K H xs ds → ds[i]? = some d → ∃ v, xs[i]? = some v ∧ Dp K H v d
  | _, _, i, d, .nil, h => by simp at h
  | _, _, 0, d, .cons r t, h => by simp at h; subst h; exact ⟨_, rfl, r⟩
  | _, _, i + 1, d, .cons r t, h => by
    obtain ⟨v, h1, h2⟩ := dpAll_get (i := i) t (by simpa using h)
    exact ⟨v, by simpa using h1, h2⟩
theorem dpAll_at {H : Hp} {xs : List V} {ds : List PyData} {i : Int} {d : PyData} (a : DpAll K H xs ds) (h : atI ds i = some d) : ∃ v, atI xs i = some v ∧ Dp K H v d := by
  unfold atI at h ⊢
  rw [DpAll.length a]
  cases q : ixN ds.length i with
  | none => rw [q] at h; cases h
  | some j =>
    rw [q] at h
    obtain ⟨v, h1, h2⟩ := dpAll_get a (show ds[j]? = some d from h)
    exact ⟨v, h1, h2⟩
def chAt (z : Str) (i : Int) : Option PyData := if z.length ≤ 16777216 then (atI z.cps.toList i).map fun c => .str ⟨#[c]⟩ else none
def gIx : List M → Option M
  | [.fl (.val (.str z)), .fl (.val (.int i))] => (chAt z i).map M.val
  | [m, .fl (.val (.int i))] => match seqOf m with
    | some ds => (atI ds i).map M.val
    | none => none
  | _ => none
theorem p_ix : Prim K (r2L (rIx K)) gIx := by
  intro us ms m Hb H es Q hg o rp k
  unfold gIx at hg
  split at hg
  · rename_i z i
    obtain ⟨u, v, f1, g1, rfl, r1, r2⟩ := reps2 rp
    cases dp_str r1.2
    cases dp_int r2.2
    unfold chAt at hg
    split at hg
    · rename_i hz
      cases q : atI z.cps.toList i with
      | none => rw [q] at hg; cases hg
      | some c =>
        rw [q] at hg; cases hg
        exact .inr (.inr ⟨z, i, c, rfl, rfl, line_big hz, q, k _ Hb H (o.val (.str _))⟩)
    · cases hg
  · rename_i mm i _
    obtain ⟨u, v, f1, g1, rfl, r1, r2⟩ := reps2 rp
    cases dp_int r2.2
    split at hg
    · rename_i ds hs
      obtain ⟨a, xs, rfl, hq, hd⟩ := seq_dp o.1 r1 hs
      cases q : atI ds i with
      | none => rw [q] at hg; cases hg
      | some d =>
        rw [q] at hg; cases hg
        obtain ⟨v, h1, h2⟩ := dpAll_at hd q
        rcases hq with hq | hq
        · exact .inl ⟨a, xs, i, v, rfl, rfl, hq, h1, k v Hb H (o.val h2)⟩
        · exact .inr (.inl ⟨a, xs, i, v, rfl, rfl, hq, h1, k v Hb H (o.val h2)⟩)
    · cases hg
  · cases hg
/-- len -/
def gLen : List M → Option M
  | [.fl (.val (.str z))] => if z.length ≤ 16777216 then some (.val (.int z.length)) else none
  | [m] => match seqOf m with
    | some ds => some (.val (.int ds.length))
    | none => none
  | _ => none
def rLenU (K : PySem.W.Frag) : List V → Hp → VK → Prop := fun xs H Q => ∃ x n, xs = [x] ∧ LenV K x H n ∧ Q (.int n) H
theorem p_len : Prim K (rLenU K) gLen := by
  intro us ms m Hb H es Q hg o rp k
  unfold gLen at hg
  split at hg
  · rename_i z
    split at hg
    · rename_i hz
      cases hg
      obtain ⟨u, f, rfl, r⟩ := reps1 rp
      cases dp_str r.2
      exact ⟨_, z.length, rfl, ⟨line_big hz, rfl⟩, k _ Hb H (o.val (.int _))⟩
    · cases hg
  · rename_i mm _
    obtain ⟨u, f, rfl, r⟩ := reps1 rp
    split at hg
    · rename_i ds hs
      cases hg
      obtain ⟨a, xs, rfl, hq, hd⟩ := seq_dp o.1 r hs
      refine ⟨.ref a, ds.length, rfl, ?_, k _ Hb H (o.val (.int _))⟩
      rcases hq with hq | hq
      · exact .inl ⟨xs, hq, (DpAll.length hd).symm⟩
      · exact .inr ⟨xs, hq, (DpAll.length hd).symm⟩
    · cases hg
  · cases hg
/-- list(x), tuple(x) -/
def gList : List M → Option M
  | [m] => match seqOf m with
    | some ds => some (.lst ds)
    | none => none
  | _ => none
def gTuple : List M → Option M
  | [m] => match seqOf m with
    | some ds => some (.val (.tuple ds))
    | none => none
  | _ => none
def rListU (K : PySem.W.Frag) : List V → Hp → VK → Prop := fun xs H Q => ∃ p ys, xs = [.ref p] ∧ (SqL K H p ys ∨ SqT K H p ys) ∧ ∀ l, H l = none → Q (.ref l) (upd H l (.lst ys))
def rTupleU (K : PySem.W.Frag) : List V → Hp → VK → Prop := fun xs H Q => ∃ p ys, xs = [.ref p] ∧ ((SqL K H p ys ∧ NewT H ys Q) ∨ (SqT K H p ys ∧ Q (.ref p) H))
theorem own_lst {Hb H : Hp} {es : List Ent} {p : Addr} {ys : List V} {ds : List PyData} (o : Own K Hb H es) (hp : H p = none) (hd : DpAll K Hb ys ds) : Own K Hb (upd H p (.lst ys)) ((some (.ref p), .lst ds) :: es) :=
  o.new (f := [p]) (grow_upd o.1 hp) ⟨p, ys, rfl, rfl, o.1.free hp, upd_same, hd⟩ fun z hz => by
    have : z = p := by simpa using hz
    subst this; exact hp
theorem p_list : Prim K (rListU K) gList := by
  intro us ms m Hb H es Q hg o rp k
  unfold gList at hg
  split at hg
  · rename_i mm
    obtain ⟨u, f, rfl, r⟩ := reps1 rp
    split at hg
    · rename_i ds hs
      cases hg
      obtain ⟨a, xs, rfl, hq, hd⟩ := seq_dp o.1 r hs
      exact ⟨a, xs, rfl, hq, fun l hl => k _ _ _ (own_lst o hl hd)⟩
    · cases hg
  · cases hg
theorem p_tuple : Prim K (rTupleU K) gTuple := by
  intro us ms m Hb H es Q hg o rp k
  unfold gTuple at hg
  split at hg
  · rename_i mm
    obtain ⟨u, f, rfl, r⟩ := reps1 rp
    split at hg
    · rename_i ds hs
      cases hg
      rcases seq_kind o.1 r hs with ⟨rfl, a, xs, rfl, h1, h2⟩ | ⟨a, xs, rfl, h1, h2⟩
      · exact ⟨a, xs, rfl, .inr ⟨h1.sq, k _ _ _ (o.val r.2)⟩⟩
      · exact ⟨a, xs, rfl, .inl ⟨h1, fun l ob hb hl => k _ _ _ (own_tup o hb hl h2)⟩⟩
    · cases hg
  · cases hg
end
end Sm

/-! Sim4: primitives, second part: slices, sums of sequences, membership, kinds, built-in functions of lists. -/
namespace Sm
open PySem PySem.Spec PyProof.Rows L2
section
variable {K : PySem.W.Frag} {E : XK}
theorem dpAll_append {H : Hp} : ∀ {xs ys : List V} {ds es : List PyData}, DpAll K H xs ds → DpAll K H ys es → DpAll K H (xs ++ ys) (ds ++ es)
  | _, _, _, _, .nil, h => h
  | _, _, _, _, .cons r t, h => .cons r (dpAll_append t h)
theorem dpAll_take {H : Hp} : ∀ {xs : List V} {ds : List PyData} (n : Nat), DpAll K H xs ds → DpAll K H (xs.take n) (ds.take n)
  | _, _, 0, _ => by simpa using DpAll.nil
  | _, _, _ + 1, .nil => .nil
  | _, _, n + 1, .cons r t => .cons r (dpAll_take n t)
theorem dpAll_drop {H : Hp} : ∀ {xs : List V} {ds : List PyData} (n : Nat), DpAll K H xs ds → DpAll K H (xs.drop n) (ds.drop n)
  | _, _, 0, h => h
  | _, _, _ + 1, .nil => .nil
  | _, _, n + 1, .cons r t => dpAll_drop n t
theorem dpAll_set {H : Hp} {v : V} {d : PyData} (r : Dp K H v d) : ∀ {xs : List V} {ds : List PyData} (n : Nat), DpAll K H xs ds → DpAll K H (xs.set n v) (ds.set n d)
  | _, _, _, .nil => .nil
  | _, _, 0, .cons _ t => .cons r t
  | _, _, n + 1, .cons q t => .cons q (dpAll_set r n t)
theorem dpAll_erase {H : Hp} : ∀ {xs : List V} {ds : List PyData} (n : Nat), DpAll K H xs ds → DpAll K H (xs.eraseIdx n) (ds.eraseIdx n)
  | _, _, _, .nil => .nil
  | _, _, 0, .cons _ t => t
  | _, _, n + 1, .cons q t => .cons q (dpAll_erase n t)
theorem dpAll_rep {H : Hp} {xs : List V} {ds : List PyData} (h : DpAll K H xs ds) : ∀ n, DpAll K H (List.replicate n xs).flatten (List.replicate n ds).flatten
  | 0 => .nil
  | n + 1 => dpAll_append h (dpAll_rep h n)
theorem dpAll_rev {H : Hp} : ∀ {xs : List V} {ds : List PyData}, DpAll K H xs ds → DpAll K H xs.reverse ds.reverse
  | _, _, .nil => .nil
  | _, _, .cons r t => by
    rw [List.reverse_cons, List.reverse_cons]
    exact dpAll_append (dpAll_rev t) (.cons r .nil)
/-! ### slices -/
def cutD (ds : List PyData) (lo hi : Option Int) : List PyData := (ds.drop (HT.sIx ds.length 0 lo)).take (HT.sIx ds.length ds.length hi - HT.sIx ds.length 0 lo)
theorem dpAll_cut {H : Hp} {xs : List V} {ds : List PyData} (h : DpAll K H xs ds) (lo hi : Option Int) : DpAll K H (cutV xs lo hi) (cutD ds lo hi) := by
  unfold cutV cutD
  rw [DpAll.length h]
  exact dpAll_take _ (dpAll_drop _ h)
def asI : M → Option Int
  | .fl (.val (.int i)) => some i
  | _ => none
theorem asI_inv {m : M} {i : Int} (h : asI m = some i) : m = .val (.int i) := by
  unfold asI at h
  split at h
  · cases h; rfl
  · cases h
theorem Wld.drop2 {Hb H : Hp} {σ : L2.St} {vs : List V} {e : Env} {fr : List Ent} {x y : Ent} (w : Wld K Hb H σ vs e (x :: y :: fr)) : Wld K Hb H σ vs e (x :: fr) := (w.perm (List.Perm.swap y x fr)).drop1
/-- a slice's part -/
inductive PtD where
  | no
  | e (d : DE)
def evP : PtD → Env → RE (Option Int)
  | .no, e => .ok none e
  | .e d, e => (d e).bind fun m e1 => match asI m with
    | some i => .ok (some i) e1
    | none => .bad
def PostP (K : PySem.W.Frag) (E : XK) (σ : L2.St) (vs : List V) (fr : List Ent) (Q : Option Int → Hp → Prop) : RE (Option Int) → Prop
  | .ok b e => ∀ Hb H, Wld K Hb H σ vs e fr → Q b H
  | .exc x e => ∀ c d Hb H, Wld K Hb H σ vs e fr → ExcAt H x c d → E c d H
  | .bad => False
def SimP (K : PySem.W.Frag) (E : XK) (t : TO) (p : PtD) : Prop := ∀ σ vs Hb H e fr Q, Wld K Hb H σ vs e fr → PostP K E σ vs fr Q (evP p e) → t σ H Q
theorem sp_no : SimP K E tNoPart .no := fun σ vs Hb H e fr Q w h => h Hb H w
theorem sp_e {t : TE} {d : DE} (h : SimE K E t d) : SimP K E (tPart t) (.e d) := by
  intro σ vs Hb H e fr Q w hq
  have hq' : PostP K E σ vs fr Q ((d e).bind fun m e1 => match asI m with
    | some i => .ok (some i) e1
    | none => .bad) := hq
  refine h.run w (fun m e1 q v Hb1 H1 w1 => ?_) (fun x e1 q => ?_) fun q => ?_
  · rw [q] at hq'
    have h2 : PostP K E σ vs fr Q (match asI m with
      | some i => .ok (some i) e1
      | none => .bad) := hq'
    cases qi : asI m with
    | none => rw [qi] at h2; exact h2.elim
    | some i =>
      rw [qi] at h2
      obtain ⟨f, r⟩ := w1.front.head
      cases asI_inv qi
      exact ⟨i, dp_int r.2, h2 Hb1 H1 w1.drop1⟩
  · rw [q] at hq'; exact hq'
  · rw [q] at hq'; exact hq'
/-- a slice, by what is taken of the whole -/
def gSlT (lo hi : Option Int) : List M → Option M
  | [.fl (.val (.tuple ds))] => some (.val (.tuple (cutD ds lo hi)))
  | _ => none
def gSlL (lo hi : Option Int) : List M → Option M
  | [.fl (.val (.list ds))] => some (.lst (cutD ds lo hi))
  | [.fl (.lst ds)] => some (.lst (cutD ds lo hi))
  | _ => none
/-- the operand is looked at first, then the parts -/
def cSl (g : Option Int → Option Int → List M → Option M) (o : OpD) (a b : PtD) : DE := fun e => (evA [o] e).bind fun _ e1 => (evP a e1).bind fun lo e2 => (evP b e2).bind fun hi e3 => match o with
  | .v i => (match g lo hi [e3.get i] with
    | some m => .ok m e3
    | none => .bad)
  | .e _ => .bad
def cSlE (g : Option Int → Option Int → List M → Option M) (d : DE) (a b : PtD) : DE := fun e => (d e).bind fun m e1 => (evP a e1).bind fun lo e2 => (evP b e2).bind fun hi e3 => match g lo hi [m] with
  | some m => .ok m e3
  | none => .bad
def SlSim (K : PySem.W.Frag) (r : V → Option Int → Option Int → Hp → VK → Prop) (g : Option Int → Option Int → List M → Option M) : Prop := ∀ lo hi, Prim K (r1L fun x H Q => r x lo hi H Q) (g lo hi)
theorem sim_sl {r : V → Option Int → Option Int → Hp → VK → Prop} {g : Option Int → Option Int → List M → Option M} (P : SlSim K r g) {i : Nat} {tl th : TO} {a b : PtD} (ha : SimP K E tl a) (hb : SimP K E th b) : SimE K E (tSl r (tVar i) tl th) (cSl g (.v i) a b) := by
  intro σ vs Hb H e fr Q w hq
  have h0 : PostE K E σ vs fr Q ((evA [.v i] e).bind fun _ e1 => (evP a e1).bind fun lo e2 => (evP b e2).bind fun hi e3 => match g lo hi [e3.get i] with
    | some m => .ok m e3
    | none => .bad) := hq
  cases q0 : (e.get i).isHole with
  | true =>
    have : evA [.v i] e = .bad := by show (match (e.get i).isHole with | true => RE.bad | false => _) = _; rw [q0]
    rw [this] at h0; exact h0.elim
  | false =>
    have : evA [.v i] e = .ok [e.get i] e := by show (match (e.get i).isHole with | true => RE.bad | false => _) = _; rw [q0]; rfl
    rw [this] at h0
    obtain ⟨v, hv, _⟩ := w.slot q0
    refine ⟨v, hv, ?_⟩
    have h1 : PostE K E σ vs fr Q ((evP a e).bind fun lo e2 => (evP b e2).bind fun hi e3 => match g lo hi [e3.get i] with
      | some m => .ok m e3
      | none => .bad) := h0
    refine ha σ vs Hb H e fr _ w ?_
    cases qa : evP a e with
    | bad => rw [qa] at h1; exact h1.elim
    | exc x e1 => rw [qa] at h1; exact h1
    | ok lo e1 =>
      rw [qa] at h1
      intro Hb1 H1 w1
      have h2 : PostE K E σ vs fr Q ((evP b e1).bind fun hi e3 => match g lo hi [e3.get i] with
        | some m => .ok m e3
        | none => .bad) := h1
      refine hb σ vs Hb1 H1 e1 fr _ w1 ?_
      cases qb : evP b e1 with
      | bad => rw [qb] at h2; exact h2.elim
      | exc x e2 => rw [qb] at h2; exact h2
      | ok hi e2 =>
        rw [qb] at h2
        intro Hb2 H2 w2
        have h3 : PostE K E σ vs fr Q (match g lo hi [e2.get i] with
          | some m => .ok m e2
          | none => .bad) := h2
        cases qg : g lo hi [e2.get i] with
        | none => rw [qg] at h3; exact h3.elim
        | some m =>
          rw [qg] at h3
          have hr : Reps K Hb2 H2 [v] [e2.get i] := AOk.reps (es := []) (fr := fr) (.v hv .nil) w2
          exact P lo hi [v] _ m Hb2 H2 _ Q qg w2.own hr fun u Hb' H' o => h3 u Hb' H' (w2.back o)
theorem sim_slE {r : V → Option Int → Option Int → Hp → VK → Prop} {g : Option Int → Option Int → List M → Option M} (P : SlSim K r g) {t : TE} {d : DE} {tl th : TO} {a b : PtD} (h : SimE K E t d) (ha : SimP K E tl a) (hb : SimP K E th b) :
    SimE K E (tSl r t tl th) (cSlE g d a b) := by
  intro σ vs Hb H e fr Q w h0
  refine h.run w (fun m e1 q v Hb1 H1 w1 => ?_) (fun x e1 q => ?_) fun q => ?_
  · have h1 : PostE K E σ vs fr Q ((d e).bind fun m e1 => (evP a e1).bind fun lo e2 => (evP b e2).bind fun hi e3 => match g lo hi [m] with
      | some m => .ok m e3
      | none => .bad) := h0
    rw [q] at h1
    have h2 : PostE K E σ vs fr Q ((evP a e1).bind fun lo e2 => (evP b e2).bind fun hi e3 => match g lo hi [m] with
      | some m => .ok m e3
      | none => .bad) := h1
    refine ha σ vs Hb1 H1 e1 _ _ w1 ?_
    cases qa : evP a e1 with
    | bad => rw [qa] at h2; exact h2.elim
    | exc x e1 => rw [qa] at h2; exact fun c dd Hb H w hx => h2 c dd Hb H w.drop1 hx
    | ok lo e2 =>
      rw [qa] at h2
      intro Hb2 H2 w2
      have h3 : PostE K E σ vs fr Q ((evP b e2).bind fun hi e3 => match g lo hi [m] with
        | some m => .ok m e3
        | none => .bad) := h2
      refine hb σ vs Hb2 H2 e2 _ _ w2 ?_
      cases qb : evP b e2 with
      | bad => rw [qb] at h3; exact h3.elim
      | exc x e2 => rw [qb] at h3; exact fun c dd Hb H w hx => h3 c dd Hb H w.drop1 hx
      | ok hi e3 =>
        rw [qb] at h3
        intro Hb3 H3 w3
        have h4 : PostE K E σ vs fr Q (match g lo hi [m] with
          | some m => .ok m e3
          | none => .bad) := h3
        cases qg : g lo hi [m] with
        | none => rw [qg] at h4; exact h4.elim
        | some m' =>
          rw [qg] at h4
          have hr : Reps K Hb3 H3 [v] [m] := .cons w3.front.head .nil
          exact P lo hi [v] _ m' Hb3 H3 _ Q qg w3.own hr fun u Hb' H' o => h4 u Hb' H' (w3.back o).drop2
  · have h1 : PostE K E σ vs fr Q ((d e).bind _) := h0
    rw [q] at h1; exact h1
  · have h1 : PostE K E σ vs fr Q ((d e).bind _) := h0
    rw [q] at h1; exact h1

theorem p_slA : SlSim K (rSlN K) gSlT := by
  intro lo hi us ms m Hb H es Q hg o rp k
  unfold gSlT at hg
  split at hg
  · rename_i ds
    cases hg
    obtain ⟨u, f, rfl, r⟩ := reps1 rp
    obtain ⟨a, xs, rfl, h1, h2⟩ := dp_tup r.2
    refine ⟨a, xs, rfl, (h1.same o.1).sq, fun hw => ?_, fun _ p ob hb hp => k _ _ _ (own_tup o hb hp (dpAll_cut h2 lo hi))⟩
    have e : cutD ds lo hi = ds := by
      unfold cutD
      rw [← DpAll.length h2, hw.1, hw.2, List.drop_zero, Nat.sub_zero, DpAll.length h2, List.take_length]
    exact k _ Hb H (o.val (by rw [e]; exact r.2))
  · cases hg
theorem p_slL : SlSim K (rSlL K) gSlL := by
  intro lo hi us ms m Hb H es Q hg o rp k
  unfold gSlL at hg
  split at hg
  · rename_i ds
    cases hg
    obtain ⟨u, f, rfl, r⟩ := reps1 rp
    obtain ⟨a, xs, rfl, h1, h2⟩ := dp_lst r.2
    exact ⟨a, xs, rfl, Sm.SqL.same o.1 h1, fun p hp => k _ _ _ (own_lst o hp (dpAll_cut h2 lo hi))⟩
  · rename_i ds
    cases hg
    obtain ⟨u, f, rfl, r⟩ := reps1 rp
    obtain ⟨a, xs, rfl, rfl, e3, e4, e5⟩ := r
    exact ⟨a, xs, rfl, .inl (.inl e4), fun p hp => k _ _ _ (own_lst o hp (dpAll_cut e5 lo hi))⟩
  · cases hg
/-! ### + and * of sequences -/
def gCatT : List M → Option M
  | [.fl (.val (.tuple ds)), .fl (.val (.tuple es))] => if ds.length + es.length ≤ 16777216 then some (.val (.tuple (ds ++ es))) else none
  | _ => none
theorem p_catT : Prim K (r2L (rCatN K)) gCatT := by
  intro us ms m Hb H es Q hg o rp k
  unfold gCatT at hg
  split at hg
  · rename_i ds zs
    split at hg
    · rename_i hz
      cases hg
      obtain ⟨u, v, f1, g1, rfl, r1, r2⟩ := reps2 rp
      obtain ⟨a, xs, rfl, h1, h2⟩ := dp_tup r1.2
      obtain ⟨b, ys, rfl, h3, h4⟩ := dp_tup r2.2
      refine ⟨a, b, xs, ys, rfl, rfl, (h1.same o.1).sq, (h3.same o.1).sq, line_big (by rw [DpAll.length h2, DpAll.length h4]; exact hz), fun e => ?_, fun _ e => ?_, fun _ _ p ob hb hp => k _ _ _ (own_tup o hb hp (dpAll_append h2 h4))⟩
      · subst e; cases h2; exact k _ Hb H (o.val r2.2)
      · subst e; cases h4; rw [List.append_nil] at k; exact k _ Hb H (o.val r1.2)
    · cases hg
  · cases hg
def lstOf : M → Option (List PyData)
  | .fl (.val (.list ds)) => some ds
  | .fl (.lst ds) => some ds
  | _ => none
theorem lst_dp {Hb H : Hp} {v : V} {m : M} {ds : List PyData} {f : List Addr} (s : Same Hb H) (r : RM K Hb H v m f) (h : lstOf m = some ds) : ∃ a xs, v = .ref a ∧ SqL K H a xs ∧ DpAll K Hb xs ds := by
  unfold lstOf at h
  split at h
  · cases h; obtain ⟨a, xs, rfl, h1, h2⟩ := dp_lst r.2; exact ⟨a, xs, rfl, Sm.SqL.same s h1, h2⟩
  · cases h; obtain ⟨a, xs, rfl, rfl, e3, e4, e5⟩ := r; exact ⟨a, xs, rfl, .inl (.inl e4), e5⟩
  · cases h
def rCatU (K : PySem.W.Frag) : R2 := fun x y H Q => ∃ l b xs zs, x = .ref l ∧ y = .ref b ∧ SqL K H l xs ∧ SqL K H b zs ∧ xs.length + zs.length ≤ sizeLine ∧ ∀ p, H p = none → Q (.ref p) (upd H p (.lst (xs ++ zs)))
theorem op_catU {X : Cx} : OpR X (binaryOp .Add) (rCatU X.K) := by
  intro pins s σ H x y v u Q I rx ry h
  obtain ⟨l, b, xs, zs, rfl, rfl, hH, hB, hz, q⟩ := h
  cases rx
  cases ry
  obtain ⟨its, r, pl, z⟩ := I.list hH
  obtain ⟨its2, r2, pl2, z2⟩ := I.list hB
  have hl := r.length
  have hl2 := r2.length
  obtain ⟨⟨cls, dd, data, sl⟩, ho, hc, n, hd⟩ := pl.isList
  obtain ⟨⟨cls2, dd2, data2, sl2⟩, ho2, hc2, n2, hd2⟩ := pl2.isList
  simp only at hc hd hc2 hd2
  subst hc hd hc2 hd2
  have ea : its.toArray ++ its2.toArray = (its ++ its2).toArray := by simp
  refine concat_meets ⟨_, ho, rfl⟩ ⟨_, ho2, rfl⟩ noFill_list_add seq_list_add PySem.F.slot_list_add PySem.F.entry_list_add (PySem.F.args_list_add_2 _ _) (list_addW l b its.toArray its2.toArray n n2 dd dd2 sl sl2 (by rw [List.size_toArray, List.size_toArray]; omega)) ⟨ho, ho2, ?_⟩
  rw [ea]
  exact ⟨.ref _, _, I.lnew (t' := s.toks) (r.append r2) (by rw [List.length_append]; omega), rfl, q _ I.fresh⟩
def gCatL : List M → Option M
  | [a, b] => match lstOf a, lstOf b with
    | some ds, some es => if ds.length + es.length ≤ 16777216 then some (.lst (ds ++ es)) else none
    | _, _ => none
  | _ => none
theorem p_catL : Prim K (r2L (rCatU K)) gCatL := by
  intro us ms m Hb H es Q hg o rp k
  unfold gCatL at hg
  split at hg
  · rename_i a b
    split at hg
    · rename_i ds zs q1 q2
      split at hg
      · rename_i hz
        cases hg
        obtain ⟨u, v, f1, g1, rfl, r1, r2⟩ := reps2 rp
        obtain ⟨a, xs, rfl, h1, h2⟩ := lst_dp o.1 r1 q1
        obtain ⟨b, ys, rfl, h3, h4⟩ := lst_dp o.1 r2 q2
        exact ⟨a, b, xs, ys, rfl, rfl, h1, h3, line_big (by rw [DpAll.length h2, DpAll.length h4]; exact hz), fun p hp => k _ _ _ (own_lst o hp (dpAll_append h2 h4))⟩
      · cases hg
    · cases hg
  · cases hg
def gRepL : List M → Option M
  | [.fl (.lst ds), .fl (.val (.int k))] => if k.natAbs < 9223372036854775808 ∧ ds.length * k.toNat ≤ 16777216 then some (.lst (List.replicate k.toNat ds).flatten) else none
  | _ => none
theorem p_repL : Prim K (r2L rRep) gRepL := by
  intro us ms m Hb H es Q hg o rp k
  unfold gRepL at hg
  split at hg
  · rename_i ds j
    split at hg
    · rename_i hz
      cases hg
      obtain ⟨u, v, f1, g1, rfl, r1, r2⟩ := reps2 rp
      obtain ⟨a, xs, rfl, rfl, e3, e4, e5⟩ := r1
      cases dp_int r2.2
      exact ⟨a, j, xs, rfl, rfl, e4, by rw [p63]; have := hz.1; omega, by rw [p63]; have := hz.1; omega, line_big (by rw [DpAll.length e5]; exact hz.2), fun p hp => k _ _ _ (own_lst o hp (dpAll_rep e5 _))⟩
    · cases hg
  · cases hg
def gCatS : List M → Option M
  | [.fl (.val (.str x)), .fl (.val (.str y))] => if x.length + y.length ≤ 16777216 then some (.val (.str (x ++ y))) else none
  | _ => none
def rCatS : R2 := fun x y H Q => ∃ i j, x = .str i ∧ y = .str j ∧ i.length + j.length ≤ sizeLine ∧ Q (.str (i ++ j)) H
theorem p_catS : Prim K (r2L rCatS) gCatS := by
  intro us ms m Hb H es Q hg o rp k
  unfold gCatS at hg
  split at hg
  · rename_i x y
    split at hg
    · rename_i hz
      cases hg
      obtain ⟨u, v, f1, g1, rfl, r1, r2⟩ := reps2 rp
      cases dp_str r1.2
      cases dp_str r2.2
      exact ⟨x, y, rfl, rfl, line_big hz, k _ Hb H (o.val (.str _))⟩
    · cases hg
  · cases hg
/-! ### in -/
def flatD : PyData → Bool
  | .none => true | .bool _ => true | .int _ => true | .str _ => true
  | _ => false
theorem flat_of {H : Hp} {v : V} {d : PyData} (r : Dp K H v d) (h : flatD d = true) : flatV v = true := by
  cases r <;> first | rfl | cases h
theorem eqV_of {H H' : Hp} {v u : V} {d e : PyData} (r : Dp K H v d) (r2 : Dp K H' u e) (h : flatD d = true) (h2 : flatD e = true) : eqV v u = PyData.eqv d e := by
  cases r <;> first
    | (cases h; done)
    | (cases r2 <;> first
        | (cases h2; done)
        | rfl
        | (simp only [eqV, PyData.eqv]; done))
theorem allFlat_of {H : Hp} : ∀ {xs : List V} {ds : List PyData}, DpAll K H xs ds → ds.all flatD = true → xs.all flatV = true
  | _, _, .nil, _ => rfl
  | _, _, .cons r t, h => by
    rw [List.all_cons, Bool.and_eq_true] at h
    rw [List.all_cons, flat_of r h.1, allFlat_of t h.2]; rfl
theorem inV_of {H H' : Hp} {v : V} {d : PyData} (r : Dp K H v d) (h : flatD d = true) : ∀ {xs : List V} {ds : List PyData}, DpAll K H' xs ds → ds.all flatD = true → inV v xs = ds.any fun z => PyData.eqv z d
  | _, _, .nil, _ => rfl
  | _, _, .cons r2 t, h2 => by
    rw [List.all_cons, Bool.and_eq_true] at h2
    unfold inV
    rw [List.any_cons, List.any_cons, eqV_of r2 r h2.1 h]
    have := inV_of r h t h2.2
    unfold inV at this
    rw [this]
def inOk (d : PyData) (ds : List PyData) : Bool := flatD d && ds.all flatD
def gIn (neg : Bool) : List M → Option M
  | [.fl (.val d), s] => match seqOf s with
    | some ds => (match inOk d ds with
      | true => some (.val (.bool (neg ^^ (ds.any fun z => PyData.eqv z d))))
      | false => none)
    | none => none
  | _ => none
theorem p_in {neg : Bool} : Prim K (r2L (rIn K neg)) (gIn neg) := by
  intro us ms m Hb H es Q hg o rp k
  unfold gIn at hg
  split at hg
  · rename_i d sq
    split at hg
    · rename_i ds hs
      split at hg
      · rename_i hk
        cases hg
        obtain ⟨u, v, f1, g1, rfl, r1, r2⟩ := reps2 rp
        obtain ⟨a, xs, rfl, hq, hd⟩ := seq_dp o.1 r2 hs
        obtain ⟨z1, z2⟩ := Bool.and_eq_true_iff.mp hk
        refine ⟨a, xs, rfl, hq, flat_of r1.2 z1, allFlat_of hd z2, ?_⟩
        rw [inV_of r1.2 z1 hd z2]
        have := k (.bl (neg ^^ (ds.any fun z => PyData.eqv z d))) Hb H (o.val (.bl _))
        cases neg
        · simpa using this
        · simpa using this
      · cases hg
    · cases hg
  · cases hg
/-! ### isinstance -/
def tyD : PyData → Option String
  | .none => some "NoneType" | .bool _ => some "bool" | .int _ => some "int" | .str _ => some "str" | .list _ => some "list" | .tuple _ => some "tuple"
  | .dict _ => none
theorem ty_of {H : Hp} {v : V} {d : PyData} {t : String} (r : Dp K H v d) (h : tyD d = some t) : TyX K H v (.type t) := by
  cases r with
  | non => cases h; exact .base .non
  | bl b => cases h; exact .base (.bl b)
  | int b => cases h; exact .base (.int b)
  | str b => cases h; exact .base (.str b)
  | lst e a =>
    cases h
    rcases e with (e | ⟨o, e⟩) | ⟨o, its, n, e, c, _⟩
    · exact .base (.lst e)
    · exact .base (.frz e)
    · exact .kList e c
  | tup e a =>
    cases h
    obtain ⟨o, _, e⟩ := e
    exact .fTuple e
def gIsi (n : String) : List M → Option M
  | [a, .fl (.raw (.ty z))] => match (z == n), a.view.bind tyD with
    | true, some t => (kitB t n).map fun b => .val (.bool b)
    | _, _ => none
  | _ => none
theorem p_isi {n : String} : Prim K (rIsi K) (gIsi n) := by
  intro us ms m Hb H es Q hg o rp k
  unfold gIsi at hg
  split at hg
  · rename_i a z
    split at hg
    · rename_i t hz ht
      have hz' : z = n := by simpa using hz
      subst hz'
      cases q : kitB t z with
      | none => rw [q] at hg; cases hg
      | some b =>
        rw [q] at hg
        cases hg
        obtain ⟨u, v, f1, g1, rfl, r1, r2⟩ := reps2 rp
        have : v = .ty z := r2.2
        subst this
        cases qv : a.view with
        | none => rw [qv] at ht; cases ht
        | some d =>
          rw [qv] at ht
          exact ⟨u, .ty z, .type t, .type z, b, rfl, .ty z, ty_of (view_dp o.1 r1 qv) ht, kit_ty q, k _ Hb H (o.val (.bl _))⟩
    · cases hg
  · cases hg
/-! ### built-ins of lists -/
def intsOf : List PyData → Option (List Int)
  | [] => some []
  | .int i :: ds => (intsOf ds).map fun l => i :: l
  | _ => none
theorem ints_dp {H : Hp} : ∀ {xs : List V} {ds : List PyData} {ns : List Int}, DpAll K H xs ds → intsOf ds = some ns → xs = ns.map V.int
  | _, _, _, .nil, h => by cases h; rfl
  | _, d :: ds, ns, .cons r t, h => by
    cases d with
    | int i =>
      have h' : (intsOf ds).map (fun l => i :: l) = some ns := h
      cases q : intsOf ds with
      | none => rw [q] at h'; cases h'
      | some l =>
        rw [q] at h'; cases h'
        rw [dp_int r, ints_dp t q]; rfl
    | _ => cases h
def boolsOf : List PyData → Option (List Bool)
  | [] => some []
  | .bool i :: ds => (boolsOf ds).map fun l => i :: l
  | _ => none
theorem bools_dp {H : Hp} : ∀ {xs : List V} {ds : List PyData} {ns : List Bool}, DpAll K H xs ds → boolsOf ds = some ns → xs = ns.map V.bl
  | _, _, _, .nil, h => by cases h; rfl
  | _, d :: ds, ns, .cons r t, h => by
    cases d with
    | bool i =>
      have h' : (boolsOf ds).map (fun l => i :: l) = some ns := h
      cases q : boolsOf ds with
      | none => rw [q] at h'; cases h'
      | some l =>
        rw [q] at h'; cases h'
        rw [dp_bool r, bools_dp t q]; rfl
    | _ => cases h
def gInts (f : List Int → Option PyData) : List M → Option M
  | [a] => match (lstOf a).bind intsOf with
    | some ns => (f ns).map M.val
    | none => none
  | _ => none
theorem gInts_inv {f : List Int → Option PyData} {ms : List M} {m : M} (h : gInts f ms = some m) : ∃ a ds ns d, ms = [a] ∧ lstOf a = some ds ∧ intsOf ds = some ns ∧ f ns = some d ∧ m = .val d := by
  unfold gInts at h
  split at h
  · rename_i a
    split at h
    · rename_i ns hn
      cases q : lstOf a with
      | none => rw [q] at hn; cases hn
      | some ds =>
        rw [q] at hn
        cases q2 : f ns with
        | none => rw [q2] at h; cases h
        | some d => rw [q2] at h; cases h; exact ⟨a, ds, ns, d, rfl, q, hn, q2, rfl⟩
    · cases h
  · cases h
def gSum : List M → Option M := gInts fun ns => some (.int ns.sum)
def maxI : List Int → Int
  | [] => 0
  | [x] => x
  | x :: y :: r => max x (maxI (y :: r))
def minI : List Int → Int
  | [] => 0
  | [x] => x
  | x :: y :: r => min x (minI (y :: r))
theorem maxI_spec : ∀ {l : List Int}, l ≠ [] → maxI l ∈ l ∧ ∀ y ∈ l, y ≤ maxI l
  | [], h => absurd rfl h
  | [x], _ => by simp [maxI]
  | x :: y :: r, _ => by
    obtain ⟨h1, h2⟩ := maxI_spec (l := y :: r) (by simp)
    have e : maxI (x :: y :: r) = max x (maxI (y :: r)) := rfl
    rw [e]
    refine ⟨?_, fun z hz => ?_⟩
    · by_cases c : x ≤ maxI (y :: r)
      · rw [Int.max_eq_right c]; exact List.mem_cons_of_mem _ h1
      · rw [Int.max_eq_left (by omega)]; simp
    · rcases List.mem_cons.mp hz with rfl | hz
      · exact Int.le_max_left _ _
      · exact Int.le_trans (h2 z hz) (Int.le_max_right _ _)
theorem minI_spec : ∀ {l : List Int}, l ≠ [] → minI l ∈ l ∧ ∀ y ∈ l, minI l ≤ y
  | [], h => absurd rfl h
  | [x], _ => by simp [minI]
  | x :: y :: r, _ => by
    obtain ⟨h1, h2⟩ := minI_spec (l := y :: r) (by simp)
    have e : minI (x :: y :: r) = min x (minI (y :: r)) := rfl
    rw [e]
    refine ⟨?_, fun z hz => ?_⟩
    · by_cases c : x ≤ minI (y :: r)
      · rw [Int.min_eq_left c]; simp
      · rw [Int.min_eq_right (by omega)]; exact List.mem_cons_of_mem _ h1
    · rcases List.mem_cons.mp hz with rfl | hz
      · exact Int.min_le_left _ _
      · exact Int.le_trans (Int.min_le_right _ _) (h2 z hz)
def gMax : List M → Option M := gInts fun ns => match ns with
  | [] => none
  | _ => some (.int (maxI ns))
def gMin : List M → Option M := gInts fun ns => match ns with
  | [] => none
  | _ => some (.int (minI ns))
theorem p_sum : Prim K (rSum K) gSum := by
  intro us ms m Hb H es Q hg o rp k
  obtain ⟨a, ds, ns, d, rfl, q1, q2, q3, rfl⟩ := gInts_inv hg
  cases q3
  obtain ⟨u, f, rfl, r⟩ := reps1 rp
  obtain ⟨b, xs, rfl, h1, h2⟩ := lst_dp o.1 r q1
  cases ints_dp h2 q2
  exact ⟨b, ns, rfl, h1, k _ Hb H (o.val (.int _))⟩
theorem p_max : Prim K (rMax K) gMax := by
  intro us ms m Hb H es Q hg o rp k
  obtain ⟨a, ds, ns, d, rfl, q1, q2, q3, rfl⟩ := gInts_inv hg
  obtain ⟨u, f, rfl, r⟩ := reps1 rp
  obtain ⟨b, xs, rfl, h1, h2⟩ := lst_dp o.1 r q1
  cases ints_dp h2 q2
  cases ns with
  | nil => cases q3
  | cons x l =>
    cases q3
    refine ⟨b, x :: l, rfl, h1, by simp, fun m hm hy => ?_⟩
    obtain ⟨s1, s2⟩ := maxI_spec (l := x :: l) (by simp)
    have e : m = maxI (x :: l) := Int.le_antisymm (s2 m hm) (hy _ s1)
    rw [e]
    exact k _ Hb H (o.val (.int _))
theorem p_min : Prim K (rMin K) gMin := by
  intro us ms m Hb H es Q hg o rp k
  obtain ⟨a, ds, ns, d, rfl, q1, q2, q3, rfl⟩ := gInts_inv hg
  obtain ⟨u, f, rfl, r⟩ := reps1 rp
  obtain ⟨b, xs, rfl, h1, h2⟩ := lst_dp o.1 r q1
  cases ints_dp h2 q2
  cases ns with
  | nil => cases q3
  | cons x l =>
    cases q3
    refine ⟨b, x :: l, rfl, h1, by simp, fun m hm hy => ?_⟩
    obtain ⟨s1, s2⟩ := minI_spec (l := x :: l) (by simp)
    have e : m = minI (x :: l) := Int.le_antisymm (hy _ s1) (s2 m hm)
    rw [e]
    exact k _ Hb H (o.val (.int _))
def gAll : List M → Option M
  | [a] => match (lstOf a).bind boolsOf with
    | some bs => some (.val (.bool (bs.all id)))
    | none => none
  | _ => none
theorem p_all : Prim K (rAll K) gAll := by
  intro us ms m Hb H es Q hg o rp k
  unfold gAll at hg
  split at hg
  · rename_i a
    split at hg
    · rename_i bs hn
      cases hg
      cases q : lstOf a with
      | none => rw [q] at hn; cases hn
      | some ds =>
        rw [q] at hn
        obtain ⟨u, f, rfl, r⟩ := reps1 rp
        obtain ⟨b, xs, rfl, h1, h2⟩ := lst_dp o.1 r q
        cases bools_dp h2 hn
        exact ⟨b, bs, rfl, h1, k _ Hb H (o.val (.bl _))⟩
    · cases hg
  · cases hg
def rMax2 : List V → Hp → VK → Prop := fun xs H Q => ∃ i j, xs = [.int i, .int j] ∧ Q (.int (if j > i then j else i)) H
def rMin2 : List V → Hp → VK → Prop := fun xs H Q => ∃ i j, xs = [.int i, .int j] ∧ Q (.int (if j < i then j else i)) H
theorem p_max2 : Prim K rMax2 (gI fun i j => if j > i then j else i) := by
  intro us ms m Hb H es Q hg o rp k
  obtain ⟨i, j, rfl, _, rfl⟩ := gII_inv hg
  obtain ⟨u, v, f1, g1, rfl, r1, r2⟩ := reps2 rp
  cases dp_int r1.2
  cases dp_int r2.2
  exact ⟨i, j, rfl, k _ Hb H (o.val (.int _))⟩
theorem p_min2 : Prim K rMin2 (gI fun i j => if j < i then j else i) := by
  intro us ms m Hb H es Q hg o rp k
  obtain ⟨i, j, rfl, _, rfl⟩ := gII_inv hg
  obtain ⟨u, v, f1, g1, rfl, r1, r2⟩ := reps2 rp
  cases dp_int r1.2
  cases dp_int r2.2
  exact ⟨i, j, rfl, k _ Hb H (o.val (.int _))⟩
/-! ### methods that change a list -/
def PMut (K : PySem.W.Frag) (r : V → List V → Hp → VK → Prop) (g : M → List M → Option (M × M)) : Prop := ∀ v us m0 ms m' m Hb H es Q, g m0 ms = some (m', m) → Own K Hb H ((some v, m0) :: es) → Reps K Hb H us ms →
  (∀ u Hb' H', Own K Hb' H' ((some u, m) :: (some v, m') :: es) → Q u H') → r v us H Q
def isLst : M → Bool
  | .fl (.lst _) => true
  | _ => false
def cMut (g : M → List M → Option (M × M)) (i : Nat) (os : List OpD) : DE := fun e => match isLst (e.get i) with
  | false => .bad
  | true => (evA os e).bind fun ms e1 => match isLst (e1.get i), g (e1.get i) ms with
    | true, some (m', m) => .ok m (e1.put i m')
    | _, _ => .bad
theorem isLst_hole {m : M} (h : isLst m = true) : m.isHole = false := by
  unfold isLst at h
  split at h
  · rfl
  · cases h
theorem se_mut {r : V → List V → Hp → VK → Prop} {g : M → List M → Option (M × M)} {i : Nat} {t : TA} {os : List OpD} (P : PMut K r g) (h : SimA K E t os) : SimE K E (tBM K "list" r (tVar i) t) (cMut g i os) := by
  intro σ vs Hb H e fr Q w hq
  have h0 : PostE K E σ vs fr Q (match isLst (e.get i) with
    | false => .bad
    | true => (evA os e).bind fun ms e1 => match isLst (e1.get i), g (e1.get i) ms with
      | true, some (m', m) => .ok m (e1.put i m')
      | _, _ => .bad) := hq
  cases ql : isLst (e.get i) with
  | false => rw [ql] at h0; exact h0.elim
  | true =>
    rw [ql] at h0
    obtain ⟨v, hv, f, rm⟩ := w.slot (isLst_hole ql)
    refine ⟨v, hv, ?_, ?_⟩
    · unfold isLst at ql
      split at ql
      · rename_i ds q
        rw [q] at rm
        obtain ⟨a, xs, rfl, _, _, e4, _⟩ := rm
        exact .inl ⟨rfl, xs, .inl (.inl e4)⟩
      · cases ql
    · have h1 : PostE K E σ vs fr Q ((evA os e).bind fun ms e1 => match isLst (e1.get i), g (e1.get i) ms with
        | true, some (m', m) => .ok m (e1.put i m')
        | _, _ => .bad) := h0
      refine h σ vs Hb H e fr _ w ?_
      cases qa : evA os e with
      | bad => rw [qa] at h1; exact h1.elim
      | exc x e1 => rw [qa] at h1; exact h1
      | ok ms e1 =>
        rw [qa] at h1
        intro us es Hb1 H1 a1 w1
        have h2 : PostE K E σ vs fr Q (match isLst (e1.get i), g (e1.get i) ms with
          | true, some (m', m) => .ok m (e1.put i m')
          | _, _ => .bad) := h1
        cases q1 : isLst (e1.get i) with
        | false => rw [q1] at h2; exact h2.elim
        | true =>
          rw [q1] at h2
          cases q2 : g (e1.get i) ms with
          | none => rw [q2] at h2; exact h2.elim
          | some z =>
            obtain ⟨m', m⟩ := z
            rw [q2] at h2
            obtain ⟨v', hv', w2⟩ := w1.take (isLst_hole q1)
            rw [hv] at hv'
            have : v = v' := Option.some.inj (Option.some.inj hv')
            subst this
            refine P v us _ ms m' m Hb1 H1 _ Q q2 w2.front (a1.reps w1) fun u Hb' H' o => ?_
            have w3 : Wld K Hb' H' σ vs (e1.put i .hole) ((some v, m') :: (some u, m) :: (es ++ fr)) := by
              have o2 := o.perm (List.Perm.swap (some v, m') (some u, m) _)
              have w0 : Wld K Hb' H' σ vs (e1.put i .hole) ((some u, m) :: (es ++ fr)) := w2.drop1.fr1 (o2.tail.perm (ents_cons _ σ vs))
              exact w0.back (o2.perm (List.Perm.cons _ (ents_cons _ σ vs)))
            have w4 := w3.put (i := i) (by rw [hv])
            have ep : (e1.put i .hole).put i m' = e1.put i m' := by
              unfold Env.put
              cases qs : getS e1.s i with
              | own x =>
                have hi : i < e1.s.length := by
                  apply Classical.byContradiction; intro z
                  have : e1.get i = .hole := by unfold Env.get; rw [getS_out (Nat.le_of_not_lt z)]
                  rw [this] at q1; cases q1
                have : getS (e1.s.set i (.own .hole)) i = .own .hole := getS_set hi
                simp only [this, List.set_set]
              | bor k => simp only [qs, List.set_set]
            rw [ep] at w4
            have w5 : Wld K Hb' H' σ vs (e1.put i m') (es ++ (some u, m) :: fr) := w4.perm (by exact List.perm_middle.symm)
            exact h2 u Hb' H' w5.drop
def gApp : M → List M → Option (M × M)
  | .fl (.lst ds), [.fl (.val d)] => if ds.length < 16777216 then some (.lst (ds ++ [d]), .val .none) else none
  | _, _ => none
theorem own_upd {Hb H : Hp} {es : List Ent} {a : Addr} {ds ds' : List PyData} {ys : List V} (o : Own K Hb H ((some (.ref a), .lst ds) :: es)) (hd : DpAll K Hb ys ds') : Own K Hb (upd H a (.lst ys)) ((some (.ref a), .lst ds') :: es) := by
  refine o.swap fun f r => ?_
  obtain ⟨b, xs, e1, e2, e3, e4, e5⟩ := r
  cases e1
  refine ⟨[a], ⟨fun _ _ e => e, fun p u e n => ?_, fun p u e => ?_, fun p h1 h2 => absurd h1 h2⟩, ⟨a, ys, rfl, rfl, e3, upd_same, hd⟩, fun p hp => .inl (by rw [e2]; exact hp)⟩
  · rw [upd_ne (fun z => n (by rw [z, e2]; simp))]; exact e
  · rw [upd_ne (fun z => by rw [z, e3] at e; cases e)]; exact o.1 _ _ e
theorem p_app : PMut K rAppend gApp := by
  intro v us m0 ms m' m Hb H es Q hg o rp k
  unfold gApp at hg
  split at hg
  · rename_i ds d
    split at hg
    · rename_i hz
      cases hg
      obtain ⟨u, f, rfl, r⟩ := reps1 rp
      obtain ⟨_, a, xs, rfl, _, e3, e4, e5⟩ := o.head
      exact ⟨a, xs, u, rfl, rfl, e4, by rw [DpAll.length e5, sizeLine_eq]; exact hz, k .non _ _ ((own_upd o (dpAll_append e5 (.cons r.2 .nil))).val .non)⟩
    · cases hg
  · cases hg
def gPopAt : M → List M → Option (M × M)
  | .fl (.lst ds), [.fl (.val (.int i))] => if 0 ≤ i ∧ i.natAbs < 9223372036854775808 then (match ds[i.toNat]? with
    | some d => some (.lst (ds.eraseIdx i.toNat), .val d)
    | none => none) else none
  | _, _ => none
theorem p_popAt : PMut K rPopAt gPopAt := by
  intro v us m0 ms m' m Hb H es Q hg o rp k
  unfold gPopAt at hg
  split at hg
  · rename_i ds i
    split at hg
    · rename_i hz
      split at hg
      · rename_i d hd
        cases hg
        obtain ⟨u, f, rfl, r⟩ := reps1 rp
        cases dp_int r.2
        obtain ⟨_, a, xs, rfl, _, e3, e4, e5⟩ := o.head
        obtain ⟨y, hy, ry⟩ := dpAll_get e5 hd
        have hlt : i.toNat < xs.length := (List.getElem?_eq_some_iff.mp hy).1
        refine ⟨a, xs, i, i.toNat, y, rfl, rfl, e4, by omega, (by rw [p63]; have := hz.1; have := hz.2; omega), ?_, hy, k y _ _ ((own_upd o (dpAll_erase _ e5)).val ry)⟩
        exact PySem.StrLaws.seqIndex_nonneg hz.1 (by omega)
      · cases hg
    · cases hg
  · cases hg
def gExt : M → List M → Option (M × M)
  | .fl (.lst ds), [m] => match m with
    | .fl (.lst es) => if ds.length + es.length ≤ 16777216 then some (.lst (ds ++ es), .val .none) else none
    | _ => none
  | _, _ => none
theorem p_ext : PMut K rExtend gExt := by
  intro v us m0 ms m' m Hb H es Q hg o rp k
  unfold gExt at hg
  split at hg
  · rename_i ds mm
    split at hg
    · rename_i zs
      split at hg
      · rename_i hz
        cases hg
        obtain ⟨u, f, rfl, r⟩ := reps1 rp
        obtain ⟨_, a, xs, rfl, _, e3, e4, e5⟩ := o.head
        obtain ⟨b, ys, rfl, _, g3, g4, g5⟩ := r
        exact ⟨a, b, xs, ys, rfl, rfl, e4, g4, line_big (by rw [DpAll.length e5, DpAll.length g5]; exact hz), k .non _ _ ((own_upd o (dpAll_append e5 g5)).val .non)⟩
      · cases hg
    · cases hg
  · cases hg
end
end Sm

/-! EnumT: for i, x in enumerate(tuple). -/
namespace Sm
open PySem PySem.Spec PyProof.Rows L2
theorem meets_enum1 {v : Value} {o : Obj} {H : Heap → Prop} (B : Begins v o H) :
    Meets (Builtin.«enumerate.__new__» ⟨[.type "enumerate", v], []⟩) (fun _ R s => H s.heap ∧
      R (.ok (.ret (.ref (s.heap.push o).objs.size))) { s with heap := (s.heap.push o).push { cls := .type "enumerate", data := .fields #[.none, .bool false, .ref s.heap.objs.size, rawInt 0, .none, .none] } }) :=
  .of_wp fun prog w A R s h => by
    obtain ⟨hp, g, d, tk, os⟩ := s; obtain ⟨h1, h⟩ := h
    have hsub := sub_enumerate
    have q1 : ∀ {A' : Around} {E : Value → Shared → Prop} {Q : Value → Shared → Prop}, Q (.ref hp.objs.size) ⟨hp.push o, g, d, tk, os⟩ → wpAny (model prog w) A' (pyIter v) Q E ⟨hp, g, d, tk, os⟩ :=
      fun q => B.iter prog w _ _ ⟨hp, g, d, tk, os⟩ _ h1 q
    wp_walk using q1
    refine wpAny_stack_any fun st => wpAny_pure ?_
    split
    · rename_i c _ _ _ _ _
      cases (c == Value.type "enumerate")
      · wp_walk using q1
        exact ⟨_, rfl, h⟩
      · wp_walk using q1
        exact ⟨_, rfl, h⟩
    · wp_walk using q1
      exact ⟨_, rfl, h⟩
theorem call_enum1 {prog : Program} {w : World} {A : Around} {E : Value → Shared → Prop} {s : Shared} {v : Value} {o : Obj} {H : Heap → Prop} {Q : Value → Shared → Prop} (B : Begins v o H) (h1 : H s.heap)
    (h : ∀ h', IsEnum h' (s.heap.objs.size + 1) s.heap.objs.size 0 .none → h'.get? s.heap.objs.size = some o → h'.objs.size = s.heap.objs.size + 2 →
      (∀ b o, s.heap.get? b = some o → h'.get? b = some o) → Q (.ref (s.heap.objs.size + 1)) { s with heap := h' }) :
    wpAny (model prog w) A (call (.type "enumerate") [v]) Q E s := by
  refine callType_new F.called_enumerate (by decide) (F.typeCall_enumerate_1 _) (F.newCall_enumerate_1 _) (fun obj => F.args_object_init_2 obj _) F.entry_enumerate_new
    (meets_enum1 B) ⟨h1, ?_⟩
  have hz : (s.heap.push o).objs.size = s.heap.objs.size + 1 := Heap.size_push ..
  show _ ∧ _
  rw [hz]
  have he : IsEnum ((s.heap.push o).push { cls := .type "enumerate", data := .fields #[.none, .bool false, .ref s.heap.objs.size, rawInt 0, .none, .none] }) (s.heap.objs.size + 1) s.heap.objs.size 0 .none := by
    have := Heap.get?_push_size (s.heap.push o) (o := { cls := .type "enumerate", data := .fields #[.none, .bool false, .ref s.heap.objs.size, rawInt 0, .none, .none] }) rfl
    rw [hz] at this; exact this
  refine ⟨⟨_, he, rfl⟩, h _ he (Heap.get?_push_of_some _ (Heap.get?_push_size _ B.free)) (by rw [Heap.size_push, hz]) fun b o x => Heap.get?_push_of_some _ (Heap.get?_push_of_some _ x)⟩
/-- the tuple at a, each item in a new pair -/
def IteT (K : PySem.W.Frag) (a : Addr) : It :=
  ⟨fun i H => ∃ (xs : List V) (x : V), SqT K H a xs ∧ xs[i]? = some x, fun i H v H' => ∃ T x o, v = .ref T ∧ bare o ∧ H T = none ∧ H' = upd H T (.frz o (.tup [.int (i : Nat), x])) ∧ ∀ xs, SqT K H a xs → xs[i]? = some x, fun i H => ∃ xs : List V, SqT K H a xs ∧ xs.length ≤ i⟩
theorem turn_enumT {P : Program} {w : World} {K : PySem.W.Frag} {elts : List Expr} {kk : Nat} {tpos : Pos} (a e it : Addr) :
    Turn P w K (.Tuple elts kk tpos) (IteT K a) [e, it] e (fun i h => (∃ old, IsEnum h e it ((i : Nat) : Int) old) ∧ h.IsTupleIter it a i ∧ e ≠ it ∧ a ≠ it ∧ a ≠ e) where
  mem := by simp
  obj := fun i h st b hb => by
    obtain ⟨⟨old, he⟩, ⟨o, ho, hc, hd⟩, _⟩ := st
    have e' : b = e ∨ b = it := by simpa using hb
    rcases e' with z | z
    · rw [z]; exact ⟨_, he, fun v q => nomatch q⟩
    · rw [z]; exact ⟨o, ho, fun v q => by rw [hd] at q; cases q⟩
  keep := fun i h h' st k => let ⟨⟨old, he⟩, hi, hne⟩ := st; ⟨⟨old, k e (by simp) _ he⟩, hi.at fun o q => k it (by simp) o q, hne⟩
  item := by
    intro X hP hw hK hc i pins s σ H E I hf st hg
    subst hP hw hK
    obtain ⟨⟨old, he⟩, hit, hne, hai, hae⟩ := st
    obtain ⟨xs, x, hq, hx⟩ := hg
    obtain ⟨its, rv, p, hz⟩ := I.tuple hq
    obtain ⟨u, hu, ru⟩ := rv.get hx
    have hel : e < s.heap.objs.size := Heap.lt_size he
    have hil : it < s.heap.objs.size := by obtain ⟨_, q, _⟩ := hit; exact Heap.lt_size q
    have hit0 := hit
    have hD := Draws.tuple (prog := X.prog) (w := X.w) (A := X.A.in1) (I.ok.hd hc) it a hai its.toArray
    have hlt : i < its.toArray.size := by
      have := (List.getElem?_eq_some_iff.mp hu).1
      simpa using this
    refine wpAny_pyNext_enum_itemD hD he ⟨hit, (show s.heap.IsTuple a its.toArray from p)⟩ hlt hne (by simp [hne, Ne.symm hae]) fun u' h' tk hu' ho hit' hT hsz hk => ?_
    have eu : u' = u := by
      have h1 : its.toArray[i]? = some u := by simpa using hu
      rw [h1] at hu'; exact (Option.some.inj hu').symm
    subst eu
    refine ⟨_, rfl, wpAny_letOwnedTupleGo_enum (s := { s with heap := h', toks := tk + 1 }) ho fun h'' he' sb => ?_⟩
    have hT2 : h''.get? s.heap.objs.size = some (tO [Value.int i tk, u'].toArray) := (sb.2 _ (Nat.ne_of_gt hel)).trans hT
    have I1 : Inv X pins σ (upd H s.heap.objs.size (.frz (tO [Value.int i tk, u'].toArray) (.tup [.int (i : Nat), x]))) { s with heap := h'', toks := tk + 1 } :=
      I.turnedNew (ch := [e, it]) (fun b ob hb q => (sb.2 b (fun z => hb (by simp [z]))).trans (hk b ob (fun z => hb (by simp [z])) (fun z => hb (by simp [z])) q)) hf (Nat.le_refl _) (okT (by show 2 ≤ sizeLine; decide) (.cons ⟨_, rfl⟩ (.cons ru .nil)) hT2)
    refine ⟨.ref s.heap.objs.size, _, I1, rfl, ⟨_, x, tO [Value.int i tk, u'].toArray, rfl, (show (tO [Value.int i tk, u'].toArray).dict = none from rfl), I.hok.fresh (Nat.le_refl _), rfl, fun ys hy => by rw [I.tuple_inj hy hq]; exact hx⟩, ⟨⟨u', ?_⟩, hit'.1.at fun o q => (sb.2 it (Ne.symm hne)).trans q, hne, hai, hae⟩, fun b hb => ?_⟩
    · have e1 : ((i + 1 : Nat) : Int) = (i : Int) + 1 := by omega
      rw [e1]; exact he'
    · have hb' : b < s.heap.objs.size := by
        have e' : b = e ∨ b = it := by simpa using hb
        rcases e' with z | z
        · rw [z]; exact hel
        · rw [z]; exact hil
      rw [upd_ne (Nat.ne_of_lt hb')]
      exact (hf b hb).1
  done := by
    intro X hP hw hK hc i pins s σ H E I hf st hg
    subst hP hw hK
    obtain ⟨⟨old, he⟩, hit, hne, hai, hae⟩ := st
    obtain ⟨xs, hq, hx⟩ := hg
    obtain ⟨its, rv, p, hz⟩ := I.tuple hq
    obtain ⟨f0, f1, f2, f3, f4, f5⟩ := hf it (by simp)
    have hl := rv.length
    have hT : s.TypeIs (.ref e) "enumerate" := ⟨_, he, rfl⟩
    unfold pyNext
    refine wpAny_bind (wpAny_attempt (wpAny_callSpecial?_slot (name := Str.ofString "__next__") hT F.slot_enumerate_next
      (wpAny_call_entry F.slot_enumerate_next hT F.entry_enumerate_next ?_ (F.args_enumerate_next_1 _))))
    show wpAny _ _ (field (.ref e) 2 >>= _) _ _ _
    refine wpAny_bind (wpAny_field he rfl (x := .ref it) rfl ?_)
    refine wpAny_bind (wpAny_nextOf_tuple_end (I.ok.hd hc) hit (show s.heap.IsTuple a its.toArray from p) (by simp; omega) fun h' x he' hx' => ?_)
    obtain ⟨o, ho, hcl⟩ := hx'
    refine wpAny_bind (wpAny_isInstance (T := "StopIteration") (b := true) ⟨o, ho, hcl⟩ isSubtype_stop ?_)
    exact wpAny_pure ⟨rfl, I.turned (t' := s.toks) (fun b o hb q => he' b o hb q) f0 f1 f3 f4 f5⟩
  self := fun A i s Q E st h => let ⟨⟨_, he⟩, _⟩ := st; wpAny_pyIter_enum he h
def iEnumT (K : PySem.W.Frag) (ta : TA) : TI := fun σ H R => ta σ H fun vs H1 => ∃ a xs, vs = [.ref a] ∧ SqT K H1 a xs ∧ R (IteT K a) H1
theorem pi_enumT {X : Cx} {e : Expr} {ta : TA} {p pos tpos : Pos} {elts : List Expr} {kk : Nat} (hg : Gl X "enumerate") (hm : X.mg "enumerate" = none) (ha : PA X [e] ta) (hs : starEach [e] X.env = [(false, eval e X.env)] := by rfl) :
    PI X (.Tuple elts kk tpos) (.Call (.Name "enumerate" p) [e] [] pos) (iEnumT X.K ta) := by
  refine ⟨fun pins s σ H R I h => ?_⟩
  refine Call_ (ld_blt I hg hm boot_enumerate (PyProof.Rows.callWith_type1 (thn (ha.run pos pins s σ H _ I h) fun us s1 ⟨vs, H1, I1, r1, q1⟩ => ?_) hs rfl))
  obtain ⟨a, xs, ex, hq, q⟩ := q1
  subst ex
  cases r1 with
  | cons r rr =>
    cases rr
    cases r
    obtain ⟨its, rv, p', hz⟩ := I1.tuple hq
    have hal : a < s1.heap.objs.size := p'.lt
    refine call_enum1 (begins_tuple a its.toArray) (show s1.heap.IsTuple a its.toArray from p') fun h' he hit hsz hk => wpAny_pyIter_enum he ?_
    have I2 : Inv X pins σ H1 { s1 with heap := h' } := I1.kept (t' := s1.toks) hk
    refine ⟨s1.heap.objs.size + 1, [s1.heap.objs.size + 1, s1.heap.objs.size], _, _, H1, rfl, I2, turn_enumT a (s1.heap.objs.size + 1) s1.heap.objs.size, ⟨⟨.none, he⟩, ⟨_, hit, rfl, rfl⟩, Nat.succ_ne_self _, Nat.ne_of_lt hal, Nat.ne_of_lt (Nat.lt_succ_of_lt hal)⟩, fun b hb => ?_, q⟩
    have e' : b = s1.heap.objs.size + 1 ∨ b = s1.heap.objs.size := by simpa using hb
    have hle : s1.heap.objs.size ≤ b := by
      rcases e' with z | z
      · rw [z]; exact Nat.le_add_right _ _
      · rw [z]; exact Nat.le_refl _
    exact I1.fpOk hle (I1.hok.fresh hle)
end Sm

/-! Sim5: calls of defs, methods, makes, fields. -/
namespace Sm
open PySem PySem.Spec PyProof.Rows L2
inductive RF where
  | ok (m : M) (a : List M)
  | exc (x : Exc) (a : List M)
  | bad
abbrev DF := List M → RF
section
variable (K : PySem.W.Frag)
def PostF (E : XK) (vs : List V) (fr : List Ent) (Q : VK) : RF → Prop
  | .ok m a => ∀ v Hb H, a.length = vs.length → Own K Hb H ((some v, m) :: (entsA vs a ++ fr)) → Q v H
  | .exc x a => ∀ c d Hb H, a.length = vs.length → Own K Hb H (entsA vs a ++ fr) → ExcAt H x c d → E c d H
  | .bad => False
/-- a def's promise, by what it gives -/
def SpOf (n : Nat) (F : DF) : Sp := fun vs H Q E => vs.length = n ∧ ∃ Hb ms fr, ms.length = vs.length ∧ Own K Hb H (entsA vs ms ++ fr) ∧ PostF K E vs fr Q (F ms)
end
def isCopy : M → Bool
  | .fl (.val _) => true
  | .fl (.raw _) => true
  | _ => false
def lendC : List OpD → List M → Env → Option (List M × Env)
  | [], [], e => some ([], e)
  | .e _ :: os, m :: ms, e => match lendC os ms e with
    | some (l, e2) => some (m :: l, e2)
    | none => none
  | .v i :: os, _ :: ms, e => match isCopy (e.get i) with
    | true => (match lendC os ms e with
      | some (l, e2) => some (e.get i :: l, e2)
      | none => none)
    | false => (match (e.get i).isHole with
      | true => none
      | false => (match lendC os ms (e.put i .hole) with
        | some (l, e2) => some (e.get i :: l, e2)
        | none => none))
  | _, _, _ => none
def backC : List OpD → List M → List M → Env → Env
  | .v i :: os, m :: ms, a :: as, e => match isCopy m with
    | true => backC os ms as e
    | false => (backC os ms as e).put i a
  | .e _ :: os, _ :: ms, _ :: as, e => backC os ms as e
  | _, _, _, e => e
def cCall (F : DF) (os : List OpD) : DE := fun e => (evA os e).bind fun ms e1 => match lendC os ms e1 with
  | none => .bad
  | some (l, e2) => match F l with
    | .ok m a => .ok m (backC os l a e2)
    | .exc x a => .exc x (backC os l a e2)
    | .bad => .bad
section
variable {K : PySem.W.Frag} {E : XK}
theorem rm_copy {Hb H : Hp} {v : V} {m : M} {f : List Addr} (r : RM K Hb H v m f) (h : isCopy m = true) : RM K Hb H v m [] := by
  cases m with
  | ins C fs => cases h
  | fl x => cases x <;> first | exact ⟨rfl, r.2⟩ | cases h
theorem lend_ok {σ : L2.St} {vs : List V} {eZ : Env} {Hb H : Hp} : ∀ {os : List OpD} {us : List V} {ms : List M} {es : List Ent}, AOk σ eZ os us ms es → ∀ {e : Env} {fr : List Ent} {l : List M} {e2 : Env}, Wld K Hb H σ vs e (es ++ fr) → lendC os ms e = some (l, e2) →
    l.length = us.length ∧ Own K Hb H (entsA us l ++ e2.ents σ vs fr) ∧ ∀ Hb' H' as fr', as.length = us.length → Own K Hb' H' (entsA us as ++ e2.ents σ vs fr') → Wld K Hb' H' σ vs (backC os l as e2) fr'
  | _, _, _, _, .nil, e, fr, l, e2, w, h => by
    have h' : some (([] : List M), e) = some (l, e2) := h
    cases h'
    exact ⟨rfl, w.own, fun Hb' H' as fr' hl o => by
      have : as = [] := List.eq_nil_of_length_eq_zero hl
      subst this
      exact w.fr1 o⟩
  | _, _, _, _, .e (d := d) (os := os) (u := u) (us := us) (m := m) (ms := ms) (es := es) a, e, fr, l, e2, w, h => by
    have h' : (match lendC os ms e with
      | some (l, e2) => some (m :: l, e2)
      | none => none) = some (l, e2) := h
    cases q : lendC os ms e with
    | none => rw [q] at h'; cases h'
    | some z =>
      obtain ⟨l1, e3⟩ := z
      rw [q] at h'; cases h'
      have w2 : Wld K Hb H σ vs e (es ++ (some u, m) :: fr) := w.perm (by exact List.perm_middle.symm)
      obtain ⟨h1, h2, h3⟩ := lend_ok a w2 q
      refine ⟨by simp [h1], ?_, fun Hb' H' as fr' hl o => ?_⟩
      · show Own K Hb H ((some u, m) :: (entsA us l1 ++ e2.ents σ vs fr))
        refine h2.perm ?_
        refine (List.Perm.append_left _ (ents_cons e2 σ vs).symm).trans ?_
        exact List.perm_middle
      · cases as with
        | nil => simp at hl
        | cons b bs =>
          have o2 : Own K Hb' H' ((some u, b) :: (entsA us bs ++ e2.ents σ vs fr')) := o
          exact h3 Hb' H' bs fr' (by simpa using hl) o2.tail
  | _, _, _, _, .v (i := i) (os := os) (u := u) (us := us) (ms := ms) hv a, e, fr, l, e2, w, h => by
    have h' : (match isCopy (e.get i) with
      | true => (match lendC os ms e with
        | some (l, e2) => some (e.get i :: l, e2)
        | none => none)
      | false => (match (e.get i).isHole with
        | true => none
        | false => (match lendC os ms (e.put i .hole) with
          | some (l, e2) => some (e.get i :: l, e2)
          | none => none))) = some (l, e2) := h
    cases qc : isCopy (e.get i) with
    | true =>
      rw [qc] at h'
      cases q : lendC os ms e with
      | none => rw [q] at h'; cases h'
      | some z =>
        obtain ⟨l1, e3⟩ := z
        rw [q] at h'; cases h'
        have hh : (e.get i).isHole = false := by
          cases z : e.get i with
          | ins C fs => rfl
          | fl x => rw [z] at qc; cases x <;> first | rfl | cases qc
        obtain ⟨v, hv', f, r⟩ := w.slot hh
        rw [hv] at hv'
        have : u = v := Option.some.inj (Option.some.inj hv')
        subst this
        obtain ⟨h1, h2, h3⟩ := lend_ok a w q
        refine ⟨by simp [h1], ?_, fun Hb' H' as fr' hl o => ?_⟩
        · exact h2.add0 (e := (some u, e.get i)) (rm_copy r qc)
        · cases as with
          | nil => simp at hl
          | cons b bs =>
            have o2 : Own K Hb' H' ((some u, b) :: (entsA us bs ++ e2.ents σ vs fr')) := o
            have w5 := h3 Hb' H' bs fr' (by simpa using hl) o2.tail
            show Wld K Hb' H' σ vs (match isCopy (e.get i) with
              | true => backC os l1 bs e2
              | false => (backC os l1 bs e2).put i b) fr'
            rw [qc]; exact w5
    | false =>
      rw [qc] at h'
      have h2' : (match (e.get i).isHole with
        | true => none
        | false => (match lendC os ms (e.put i .hole) with
          | some (l, e2) => some (e.get i :: l, e2)
          | none => none)) = some (l, e2) := h'
      cases hh : (e.get i).isHole with
      | true => rw [hh] at h2'; cases h2'
      | false =>
        rw [hh] at h2'
        cases q : lendC os ms (e.put i .hole) with
        | none => rw [q] at h2'; cases h2'
        | some z =>
          obtain ⟨l1, e3⟩ := z
          rw [q] at h2'; cases h2'
          obtain ⟨v, hv', w1⟩ := w.take hh
          rw [hv] at hv'
          have : u = v := Option.some.inj (Option.some.inj hv')
          subst this
          obtain ⟨h1, h2, h3⟩ := lend_ok a (fr := (some u, e.get i) :: fr) (w1.perm (by exact List.perm_middle.symm)) q
          refine ⟨by simp [h1], ?_, fun Hb' H' as fr' hl o => ?_⟩
          · show Own K Hb H ((some u, e.get i) :: (entsA us l1 ++ e2.ents σ vs fr))
            refine h2.perm ?_
            refine (List.Perm.append_left _ (ents_cons e2 σ vs).symm).trans ?_
            exact List.perm_middle
          · cases as with
            | nil => simp at hl
            | cons b bs =>
              have o2 : Own K Hb' H' ((some u, b) :: (entsA us bs ++ e2.ents σ vs fr')) := o
              have o3 : Own K Hb' H' (entsA us bs ++ e2.ents σ vs ((some u, b) :: fr')) := o2.perm (List.perm_middle.symm.trans (List.Perm.append_left _ (ents_cons e2 σ vs)))
              have w5 := h3 Hb' H' bs ((some u, b) :: fr') (by simpa using hl) o3
              show Wld K Hb' H' σ vs (match isCopy (e.get i) with
                | true => backC os l1 bs e2
                | false => (backC os l1 bs e2).put i b) fr'
              rw [qc]; exact w5.put hv
/-- the end of a call -/
theorem call_end {F : DF} {n : Nat} {os : List OpD} (hn : os.length = n) {σ : L2.St} {vs : List V} {e : Env} {fr : List Ent} {Q : VK} (h : PostE K E σ vs fr Q (cCall F os e)) : PostA K E σ vs fr os (fun us H => SpOf K n F us H Q E) (evA os e) := by
  have h' : PostE K E σ vs fr Q ((evA os e).bind fun ms e1 => match lendC os ms e1 with
    | none => .bad
    | some (l, e2) => match F l with
      | .ok m a => .ok m (backC os l a e2)
      | .exc x a => .exc x (backC os l a e2)
      | .bad => .bad) := h
  cases q : evA os e with
  | bad => rw [q] at h'; exact h'.elim
  | exc x e1 => rw [q] at h'; exact h'
  | ok ms e1 =>
    rw [q] at h'
    intro us es Hb H a w
    have h3 : PostE K E σ vs fr Q (match lendC os ms e1 with
      | none => .bad
      | some (l, e2) => match F l with
        | .ok m a => .ok m (backC os l a e2)
        | .exc x a => .exc x (backC os l a e2)
        | .bad => .bad) := h'
    cases q2 : lendC os ms e1 with
    | none => rw [q2] at h3; exact h3.elim
    | some z =>
      obtain ⟨l, e2⟩ := z
      rw [q2] at h3
      obtain ⟨g1, g2, g3⟩ := lend_ok a w q2
      refine ⟨by rw [a.length.1, hn], Hb, l, e2.ents σ vs fr, g1, g2, ?_⟩
      have h4 : PostE K E σ vs fr Q (match F l with
        | .ok m a => .ok m (backC os l a e2)
        | .exc x a => .exc x (backC os l a e2)
        | .bad => .bad) := h3
      cases q3 : F l with
      | bad => rw [q3] at h4; exact h4.elim
      | ok m b =>
        rw [q3] at h4
        intro v Hb' H' hl o
        refine h4 v Hb' H' (g3 Hb' H' b _ hl ?_)
        refine o.perm ?_
        exact (List.perm_middle.symm.trans (List.Perm.append_left _ (ents_cons e2 σ vs)))
      | exc x b =>
        rw [q3] at h4
        intro c d Hb' H' hl o hx
        exact h4 c d Hb' H' (g3 Hb' H' b _ hl o) hx
theorem se_call {F : DF} {n : Nat} {t : TA} {os : List OpD} (h : SimA K E t os) (hn : os.length = n := by rfl) : SimE K E (tCall (SpOf K n F) [] E t) (cCall F os) := by
  intro σ vs Hb H e fr Q w hq
  have h1 := call_end (n := n) hn hq
  refine h σ vs Hb H e fr _ w ?_
  cases q : evA os e with
  | bad => rw [q] at h1; exact h1.elim
  | exc x e1 => rw [q] at h1; exact h1
  | ok ms e1 =>
    rw [q] at h1
    intro us es Hb1 H1 a w1
    show SpOf K n F (us ++ []) H1 Q E
    rw [List.append_nil]
    exact h1 us es Hb1 H1 a w1
/-! ### methods -/
def okRecv (C : Addr) (m : Str) : M → Bool
  | .ins D fs => decide (D = C) && (fs.lookup m).isNone
  | _ => false
theorem rfs_lookup {Hb H : Hp} {ws : List (Str × V)} {fs : List (Str × Fl)} {f : List Addr} (h : RFs K Hb H ws fs f) (x : Str) : (fs.lookup x = none → ws.lookup x = none) ∧ ∀ y, fs.lookup x = some y → ∃ v g, ws.lookup x = some v ∧ RFl K Hb H v y g := by
  induction h with
  | nil => exact ⟨fun _ => rfl, fun y h => by cases h⟩
  | @cons n v y ws fs f g r _ d ih =>
    by_cases c : x = n
    · subst c
      refine ⟨fun h => ?_, fun z h => ?_⟩
      · simp [List.lookup] at h
      · simp [List.lookup] at h ⊢
        subst h; exact ⟨f, r⟩
    · have c' : (x == n) = false := by simpa using c
      refine ⟨fun h => ?_, fun z h => ?_⟩
      · simp only [List.lookup, c'] at h ⊢; exact ih.1 h
      · simp only [List.lookup, c'] at h ⊢; exact ih.2 z h
theorem recv_of {Hb H : Hp} {C : Addr} {m : Str} {x : M} {v : V} {f : List Addr} (r : RM K Hb H v x f) (h : okRecv C m x = true) : ∃ a dx ws, v = .ref a ∧ H a = some (.ins C dx ws) ∧ ws.lookup m = none := by
  cases x with
  | fl y => cases h
  | ins D fs =>
    obtain ⟨a, dx, ws, g, rfl, _, _, e4, e5, _⟩ := r
    obtain ⟨h1, h2⟩ := Bool.and_eq_true_iff.mp h
    have h1' : D = C := of_decide_eq_true h1
    subst h1'
    exact ⟨a, dx, ws, rfl, e4, (rfs_lookup e5 m).1 (by simpa using h2)⟩
def cMeth (C : Addr) (m : Str) (F : DF) (i : Nat) (os : List OpD) : DE := fun e => match okRecv C m (e.get i) with
  | true => cCall F (.v i :: os) e
  | false => .bad
theorem okRecv_hole {C : Addr} {m : Str} {x : M} (h : okRecv C m x = true) : x.isHole = false := by
  cases x with
  | fl y => cases h
  | ins D fs => rfl
theorem se_meth {C : Addr} {m : Str} {F : DF} {n i : Nat} {t : TA} {os : List OpD} (h : SimA K E t os) (hn : os.length + 1 = n := by rfl) : SimE K E (tMeth C m (SpOf K n F) [] E (tVar i) t) (cMeth C m F i os) := by
  intro σ vs Hb H e fr Q w hq
  have h0 : PostE K E σ vs fr Q (match okRecv C m (e.get i) with
    | true => cCall F (.v i :: os) e
    | false => .bad) := hq
  cases qk : okRecv C m (e.get i) with
  | false => rw [qk] at h0; exact h0.elim
  | true =>
    rw [qk] at h0
    have h1 := call_end (n := n) (os := .v i :: os) hn h0
    obtain ⟨v, hv, f, r⟩ := w.slot (okRecv_hole qk)
    obtain ⟨a, dx, ws, rfl, e1, e2⟩ := recv_of r qk
    refine ⟨.ref a, hv, a, dx, ws, rfl, e1, e2, ?_⟩
    have ev : evA (.v i :: os) e = (evA os e).bind fun ms e2 => .ok (e2.get i :: ms) e2 := by
      show (match (e.get i).isHole with | true => RE.bad | false => _) = _
      rw [okRecv_hole qk]
    rw [ev] at h1
    refine h σ vs Hb H e fr _ w ?_
    cases q : evA os e with
    | bad => rw [q] at h1; exact h1.elim
    | exc x e1 => rw [q] at h1; exact h1
    | ok ms e1 =>
      rw [q] at h1
      intro us es Hb1 H1 a1 w1
      show SpOf K n F (V.ref a :: (us ++ [])) H1 Q E
      rw [List.append_nil]
      exact h1 (V.ref a :: us) es Hb1 H1 (.v hv a1) w1
/-- a method of what an expression gives -/
def cMethE (C : Addr) (m : Str) (F : DF) (d : DE) (os : List OpD) : DE := fun e => (d e).bind fun x e1 => match okRecv C m x with
  | true => cCall F (.e (fun e => .ok x e) :: os) e1
  | false => .bad
theorem se_methE {C : Addr} {m : Str} {F : DF} {n : Nat} {ta : TE} {d : DE} {t : TA} {os : List OpD} (ha : SimE K E ta d) (h : SimA K E t os) (hn : os.length + 1 = n := by rfl) : SimE K E (tMeth C m (SpOf K n F) [] E ta t) (cMethE C m F d os) := by
  intro σ vs Hb H e fr Q w hq
  have h0 : PostE K E σ vs fr Q ((d e).bind fun x e1 => match okRecv C m x with
    | true => cCall F (.e (fun e => .ok x e) :: os) e1
    | false => .bad) := hq
  refine ha.run w (fun x e1 q v Hb1 H1 w1 => ?_) (fun x e1 q => by rw [q] at h0; exact h0) fun q => by rw [q] at h0; exact h0
  rw [q] at h0
  have h2 : PostE K E σ vs fr Q (match okRecv C m x with
    | true => cCall F (.e (fun e => .ok x e) :: os) e1
    | false => .bad) := h0
  cases qk : okRecv C m x with
  | false => rw [qk] at h2; exact h2.elim
  | true =>
    rw [qk] at h2
    have h1 := call_end (n := n) (os := .e (fun e => .ok x e) :: os) hn h2
    obtain ⟨f, r⟩ := w1.front.head
    obtain ⟨a, dx, ws, rfl, g1, g2⟩ := recv_of r qk
    refine ⟨a, dx, ws, rfl, g1, g2, ?_⟩
    have ev : evA (.e (fun e => .ok x e) :: os) e1 = (evA os e1).bind fun ms e2 => .ok (x :: ms) e2 := rfl
    rw [ev] at h1
    refine h σ vs Hb1 H1 e1 _ _ w1 ?_
    cases q : evA os e1 with
    | bad => rw [q] at h1; exact h1.elim
    | exc x e1 => rw [q] at h1; exact fun c d Hb H w2 hx => h1 c d Hb H w2.drop1 hx
    | ok ms e2 =>
      rw [q] at h1
      intro us es Hb2 H2 a1 w2
      show SpOf K n F (V.ref a :: (us ++ [])) H2 Q E
      rw [List.append_nil]
      exact h1 (V.ref a :: us) ((some (.ref a), x) :: es) Hb2 H2 (.e a1) (w2.perm (by exact List.perm_middle))
/-! ### C(..) -/
def cMake (C : Addr) (F : DF) (os : List OpD) : DE := fun e => (evA os e).bind fun ms e1 => match lendC os ms e1 with
  | none => .bad
  | some (l, e2) => match F (.ins C [] :: l) with
    | .ok (.fl (.val .none)) (x :: a) => .ok x (backC os l a e2)
    | .exc x (_ :: a) => .exc x (backC os l a e2)
    | _ => .bad
theorem se_make {C : Addr} {F : DF} {n : Nat} {t : TA} {os : List OpD} (h : SimA K E t os) (hn : os.length + 1 = n := by rfl) : SimE K E (tMake C (SpOf K n F) [] E t) (cMake C F os) := by
  intro σ vs Hb H e fr Q w hq
  have h' : PostE K E σ vs fr Q ((evA os e).bind fun ms e1 => match lendC os ms e1 with
    | none => .bad
    | some (l, e2) => match F (.ins C [] :: l) with
      | .ok (.fl (.val .none)) (x :: a) => .ok x (backC os l a e2)
      | .exc x (_ :: a) => .exc x (backC os l a e2)
      | _ => .bad) := hq
  refine h σ vs Hb H e fr _ w ?_
  cases q : evA os e with
  | bad => rw [q] at h'; exact h'.elim
  | exc x e1 => rw [q] at h'; exact h'
  | ok ms e1 =>
    rw [q] at h'
    intro us es Hb1 H1 a w1 x dx hx hdx hne
    have h3 : PostE K E σ vs fr Q (match lendC os ms e1 with
      | none => .bad
      | some (l, e2) => match F (.ins C [] :: l) with
        | .ok (.fl (.val .none)) (x :: a) => .ok x (backC os l a e2)
        | .exc x (_ :: a) => .exc x (backC os l a e2)
        | _ => .bad) := h'
    cases q2 : lendC os ms e1 with
    | none => rw [q2] at h3; exact h3.elim
    | some z =>
      obtain ⟨l, e2⟩ := z
      rw [q2] at h3
      obtain ⟨g1, g2, g3⟩ := lend_ok a w1 q2
      show SpOf K n F (V.ref x :: (us ++ [])) _ _ E
      rw [List.append_nil]
      have gr1 := grow_upd (o := .own x) g2.1 hdx
      have hx2 : (upd H1 dx (.own x)) x = none := by rw [upd_ne hne.symm]; exact hx
      have o1 : Own K Hb1 (upd (upd H1 dx (.own x)) x (.ins C dx [])) ((some (.ref x), .ins C []) :: (entsA us l ++ e2.ents σ vs fr)) := by
        refine (g2.grow gr1).new (f := [x]) (grow_upd (gr1.sub) hx2) ⟨x, dx, [], [], rfl, rfl, (g2.1).free hx, upd_same, .nil, by simp⟩ fun p hp => ?_
        have : p = x := by simpa using hp
        subst this; exact hx2
      refine ⟨by simp [a.length.1, ← hn], Hb1, .ins C [] :: l, e2.ents σ vs fr, by simp [g1], o1, ?_⟩
      have h4 : PostE K E σ vs fr Q (match F (.ins C [] :: l) with
        | .ok (.fl (.val .none)) (x :: a) => .ok x (backC os l a e2)
        | .exc x (_ :: a) => .exc x (backC os l a e2)
        | _ => .bad) := h3
      split at h4
      · rename_i y b q3
        rw [q3]
        intro v Hb' H' hl o
        have ov : v = .non := by
          obtain ⟨f, r⟩ := o.head
          exact dp_none r.2
        refine ⟨ov, h4 (.ref x) Hb' H' ?_⟩
        have o3 : Own K Hb' H' ((some (.ref x), y) :: (entsA us b ++ e2.ents σ vs fr)) := o.tail
        refine g3 Hb' H' b _ (by simpa using hl) ?_
        exact o3.perm (List.perm_middle.symm.trans (List.Perm.append_left _ (ents_cons e2 σ vs)))
      · rename_i y z b q3
        rw [q3]
        intro c d Hb' H' hl o hx
        have o3 : Own K Hb' H' ((some (.ref x), z) :: (entsA us b ++ e2.ents σ vs fr)) := o
        exact h4 c d Hb' H' (g3 Hb' H' b _ (by simpa using hl) o3.tail) hx
      · exact h4.elim
/-! ### fields -/
def fldOf (C : Addr) (f : Str) : M → Option M
  | .ins D fs => match decide (D = C), fs.lookup f with
    | true, some (.val d) => some (.val d)
    | true, some (.raw v) => some (.raw v)
    | _, _ => none
  | _ => none
/-- o.f, o a name, f a field that stands still -/
def cFld (C : Addr) (i : Nat) (f : Str) : DE := fun e => match fldOf C f (e.get i) with
  | some m => .ok m e
  | none => .bad
theorem se_fld {C : Addr} {i : Nat} {f : Str} (c : Cls K C) (nf : NoAttr K C f) : SimE K E (tFld K (tVar i) f) (cFld C i f) := by
  intro σ vs Hb H e fr Q w hq
  have h0 : PostE K E σ vs fr Q (match fldOf C f (e.get i) with
    | some m => .ok m e
    | none => .bad) := hq
  cases qf : fldOf C f (e.get i) with
  | none => rw [qf] at h0; exact h0.elim
  | some m =>
    rw [qf] at h0
    cases qe : e.get i with
    | fl x => rw [qe] at qf; cases qf
    | ins D fs =>
      obtain ⟨v, hv, g, r⟩ := w.slot (i := i) (by rw [qe]; rfl)
      rw [qe] at r qf
      obtain ⟨a, dx, ws, u, rfl, _, _, e4, e5, _⟩ := r
      have qf' : (match decide (D = C), fs.lookup f with
        | true, some (.val d) => some (M.val d)
        | true, some (.raw v) => some (.raw v)
        | _, _ => none) = some m := qf
      split at qf'
      · rename_i d h1 h2
        cases qf'
        have : D = C := of_decide_eq_true h1
        subst this
        obtain ⟨y, g, l, ry⟩ := (rfs_lookup e5 f).2 _ h2
        exact ⟨.ref a, hv, a, D, dx, ws, y, rfl, e4, c, nf, l, h0 y Hb H (w.back (w.own.val ry.2))⟩
      · rename_i d h1 h2
        cases qf'
        have : D = C := of_decide_eq_true h1
        subst this
        obtain ⟨y, g, l, ry⟩ := (rfs_lookup e5 f).2 _ h2
        have ey : y = d := ry.2
        rw [ey] at l
        exact ⟨.ref a, hv, a, D, dx, ws, d, rfl, e4, c, nf, l, h0 d Hb H (w.back w.own.raw)⟩
      · cases qf'
end
end Sm

/-! Sim6: statements, loops, comprehensions, defs. -/
namespace Sm
open PySem PySem.Spec PyProof.Rows L2
section
variable {K : PySem.W.Frag} {E : XK}
/-! ### small statements -/
def cNx : DS := fun e => .nx e
def cBad : DS := fun _ => .bad
def RS.then (r : RS) (k : DS) : RS := match r with
  | .nx e => k e
  | r => r
def cSeq (a b : DS) : DS := fun e => (a e).then b
def RE.toS {α : Type} (r : RE α) (k : α → Env → RS) : RS := match r with
  | .ok x e => k x e
  | .exc x e => .exc x e
  | .bad => .bad
theorem ss_nx : SimS K E tNext cNx := fun σ vs Hb H e fr D w h => h σ Hb H w
theorem ss_bad {t : TS} : SimS K E t cBad := fun σ vs Hb H e fr D w h => h.elim
theorem SimS.run {t : TS} {d : DS} (h : SimS K E t d) {σ : L2.St} {vs : List V} {Hb H : Hp} {e : Env} {fr : List Ent} {D : Ends} (w : Wld K Hb H σ vs e fr) {r : RS} (q : d e = r) (p : PostS K E vs fr D r) : t D σ H := h σ vs Hb H e fr D w (by rw [q]; exact p)
theorem ss_seq {t u : TS} {a b : DS} (h1 : SimS K E t a) (h2 : SimS K E u b) : SimS K E (tSeq t u) (cSeq a b) := by
  intro σ vs Hb H e fr D w hq
  have h0 : PostS K E vs fr D ((a e).then b) := hq
  show t { D with nx := u D } σ H
  cases q : a e with
  | nx e1 =>
    rw [q] at h0
    exact h1.run w q fun σ' Hb' H' w' => h2 σ' vs Hb' H' e1 fr D w' h0
  | ret m e1 => rw [q] at h0; exact h1.run w q h0
  | exc x e1 => rw [q] at h0; exact h1.run w q h0
  | brk e1 => rw [q] at h0; exact h1.run w q h0
  | ct e1 => rw [q] at h0; exact h1.run w q h0
  | bad => rw [q] at h0; exact h0.elim
/-- an expression, then a statement's end -/
theorem toS_run {t : TE} {d : DE} (h : SimE K E t d) {k : M → Env → RS} {σ : L2.St} {vs : List V} {Hb H : Hp} {e : Env} {fr : List Ent} {D : Ends} {Q : VK} (w : Wld K Hb H σ vs e fr) (hq : PostS K E vs fr D ((d e).toS k))
    (hk : ∀ m e1 v Hb1 H1, Wld K Hb1 H1 σ vs e1 ((some v, m) :: fr) → PostS K E vs fr D (k m e1) → Q v H1) : t σ H Q := by
  refine h.run w (fun m e1 q v Hb1 H1 w1 => ?_) (fun x e1 q => ?_) fun q => ?_
  · rw [q] at hq; exact hk m e1 v Hb1 H1 w1 hq
  · rw [q] at hq; exact fun c dd Hb1 H1 w1 hx => hq c dd σ Hb1 H1 w1 hx
  · rw [q] at hq; exact hq
theorem toS_runT {t : TT} {d : DT} (h : SimT K E t d) {k : Bool → Env → RS} {σ : L2.St} {vs : List V} {Hb H : Hp} {e : Env} {fr : List Ent} {D : Ends} {Q : Bool → Hp → Prop} (w : Wld K Hb H σ vs e fr) (hq : PostS K E vs fr D ((d e).toS k))
    (hk : ∀ m e1 Hb1 H1, Wld K Hb1 H1 σ vs e1 fr → PostS K E vs fr D (k m e1) → Q m H1) : t σ H Q := by
  refine h.run w (fun m e1 q Hb1 H1 w1 => ?_) (fun x e1 q => ?_) fun q => ?_
  · rw [q] at hq; exact hk m e1 Hb1 H1 w1 hq
  · rw [q] at hq; exact fun c dd Hb1 H1 w1 hx => hq c dd σ Hb1 H1 w1 hx
  · rw [q] at hq; exact hq
def cExpr (d : DE) : DS := fun e => (d e).toS fun _ e1 => .nx e1
theorem ss_expr {t : TE} {d : DE} (h : SimE K E t d) : SimS K E (tDrop t) (cExpr d) := fun σ vs Hb H e fr D w hq =>
  toS_run (k := fun _ e1 => .nx e1) h w hq fun m e1 v Hb1 H1 w1 p => p σ Hb1 H1 w1.drop1
def cRet (d : DE) : DS := fun e => (d e).toS fun m e1 => .ret m e1
theorem ss_ret {t : TE} {d : DE} (h : SimE K E t d) : SimS K E (tRet t) (cRet d) := fun σ vs Hb H e fr D w hq =>
  toS_run (k := fun m e1 => .ret m e1) h w hq fun m e1 v Hb1 H1 w1 p => p v σ Hb1 H1 w1
def cRetN : DS := fun e => .ret (.val .none) e
theorem ss_retN : SimS K E tRetN cRetN := fun σ vs Hb H e fr D w hq => hq .non σ Hb H (w.back (w.own.val .non))
def cIfS (c : DT) (a b : DS) : DS := fun e => (c e).toS fun k e1 => match k with
  | true => a e1
  | false => b e1
theorem ss_if {c : TT} {t u : TS} {d : DT} {a b : DS} (h : SimT K E c d) (h1 : SimS K E t a) (h2 : SimS K E u b) : SimS K E (tIfS c t u) (cIfS d a b) := fun σ vs Hb H e fr D w hq =>
  toS_runT (k := fun k e1 => match k with
    | true => a e1
    | false => b e1) h w hq fun m e1 Hb1 H1 w1 p => by
    cases m with
    | true => exact iteT (h1 σ vs Hb1 H1 e1 fr D w1 p)
    | false => exact iteF (h2 σ vs Hb1 H1 e1 fr D w1 p)
def cBrk : DS := fun e => .brk e
def cCt : DS := fun e => .ct e
theorem ss_brk : SimS K E tBreak cBrk := fun σ vs Hb H e fr D w h => h σ Hb H w
theorem ss_ct : SimS K E tCont cCt := fun σ vs Hb H e fr D w h => h σ Hb H w
/-- name = e -/
def cSet (i : Nat) (d : DE) : DS := fun e => (d e).toS fun m e1 => .nx (e1.asg i m)
theorem ss_set {i : Nat} {t : TE} {d : DE} (h : SimE K E t d) : SimS K E (tAsg t (gName i)) (cSet i d) := fun σ vs Hb H e fr D w hq =>
  toS_run (k := fun m e1 => .nx (e1.asg i m)) h w hq fun m e1 v Hb1 H1 w1 p => p _ Hb1 H1 (w1.asg i)
/-! ### targets -/
abbrev DG := PyData → Env → Option Env
def SimG (K : PySem.W.Frag) (g : TG) (d : DG) : Prop := ∀ σ vs Hb H e fr x y (Q : L2.St → Hp → Prop), Wld K Hb H σ vs e ((some x, .val y) :: fr) → (∃ e1, d y e = some e1 ∧ ∀ σ' Hb' H', Wld K Hb' H' σ' vs e1 fr → Q σ' H') → g x σ H Q
def SimGs (K : PySem.W.Frag) (g : TGs) (d : List PyData → Env → Option Env) : Prop := ∀ σ vs Hb H e fr xs ys (Q : L2.St → Hp → Prop), Wld K Hb H σ vs e fr → DpAll K Hb xs ys → (∃ e1, d ys e = some e1 ∧ ∀ σ' Hb' H', Wld K Hb' H' σ' vs e1 fr → Q σ' H') → g xs σ H Q
def gN (i : Nat) : DG := fun d e => some (e.asg i (.val d))
theorem sg_name {i : Nat} : SimG K (gName i) (gN i) := by
  intro σ vs Hb H e fr x y Q w ⟨e1, h1, h2⟩
  cases h1
  exact h2 _ Hb H (w.asg i)
def gsN : List PyData → Env → Option Env
  | [], e => some e
  | _ :: _, _ => none
def gsC (g : DG) (r : List PyData → Env → Option Env) : List PyData → Env → Option Env
  | [], _ => none
  | d :: ds, e => match g d e with
    | some e1 => r ds e1
    | none => none
theorem sgs_nil : SimGs K gNil gsN := by
  intro σ vs Hb H e fr xs ys Q w a ⟨e1, h1, h2⟩
  cases a with
  | nil => cases h1; exact ⟨rfl, h2 σ Hb H w⟩
  | cons _ _ => cases h1
theorem sgs_cons {i : Nat} {u : TGs} {r : List PyData → Env → Option Env} (h : SimGs K u r) : SimGs K (gCons (gName i) u) (gsC (gN i) r) := by
  intro σ vs Hb H e fr xs ys Q w a ⟨e1, h1, h2⟩
  cases a with
  | nil => cases h1
  | cons ra ta =>
    refine ⟨_, _, rfl, ?_⟩
    exact h _ vs Hb H _ fr _ _ Q ((w.back (w.own.val ra)).asg i) ta ⟨e1, h1, h2⟩
def gT (n : Nat) (r : List PyData → Env → Option Env) : DG := fun d e => match d with
  | .tuple ds => (match decide (ds.length = n) with
    | true => r ds e
    | false => none)
  | _ => none
theorem sg_tup {n : Nat} {u : TGs} {r : List PyData → Env → Option Env} (h : SimGs K u r) : SimG K (gTup K n u) (gT n r) := by
  intro σ vs Hb H e fr x y Q w ⟨e1, h1, h2⟩
  cases y with
  | tuple ds =>
    have h1' : (match decide (ds.length = n) with
      | true => r ds e
      | false => none) = some e1 := h1
    cases q : decide (ds.length = n) with
    | false => rw [q] at h1'; cases h1'
    | true =>
      rw [q] at h1'
      obtain ⟨f, rr⟩ := w.front.head
      obtain ⟨a, xs, rfl, g1, g2⟩ := dp_tup rr.2
      exact ⟨a, xs, rfl, (g1.same w.same).sq, by rw [DpAll.length g2]; exact of_decide_eq_true q, h σ vs Hb H e fr xs ds Q w.drop1 g2 ⟨e1, h1', h2⟩⟩
  | _ => cases h1
/-- a, b = e -/
def cAsgG (g : DG) (d : DE) : DS := fun e => (d e).toS fun m e1 => match m with
  | .fl (.val y) => (match g y e1 with
    | some e2 => .nx e2
    | none => .bad)
  | _ => .bad
theorem ss_asgG {t : TE} {g : TG} {d : DE} {dg : DG} (h : SimE K E t d) (hg : SimG K g dg) : SimS K E (tAsg t g) (cAsgG dg d) := fun σ vs Hb H e fr D w hq =>
  toS_run (k := fun m e1 => match m with
    | .fl (.val y) => (match dg y e1 with
      | some e2 => .nx e2
      | none => .bad)
    | _ => .bad) h w hq fun m e1 v Hb1 H1 w1 p => by
    cases m with
    | ins C fs => exact p.elim
    | fl y =>
      cases y with
      | val d =>
        have p' : PostS K E vs fr D (match dg d e1 with
          | some e2 => .nx e2
          | none => .bad) := p
        cases q : dg d e1 with
        | none => rw [q] at p'; exact p'.elim
        | some e2 => rw [q] at p'; exact hg σ vs Hb1 H1 e1 fr v d _ w1 ⟨e2, q, p'⟩
      | _ => exact p.elim
/-- a, b = x, y -/
def cPar (i j : Nat) (a b : DE) : DS := fun e => (a e).toS fun m e1 => (b e1).toS fun n e2 => .nx ((e2.asg i m).asg j n)
theorem ss_par {i j : Nat} {ta tb : TE} {a b : DE} (h1 : SimE K E ta a) (h2 : SimE K E tb b) : SimS K E (tPar i j (tCons ta (tCons tb tNil))) (cPar i j a b) := by
  intro σ vs Hb H e fr D w hq
  refine toS_run (k := fun m e1 => (b e1).toS fun n e2 => .nx ((e2.asg i m).asg j n)) h1 w hq fun m e1 v Hb1 H1 w1 p => ?_
  refine h2.run w1 (fun n e2 q u Hb2 H2 w2 => ?_) (fun x e2 q c dd Hb2 H2 w2 hx => ?_) fun q => ?_
  · rw [q] at p
    have w3 : Wld K Hb2 H2 σ vs e2 ((some v, m) :: (some u, n) :: fr) := w2.perm (List.Perm.swap _ _ _)
    exact ⟨v, u, rfl, p _ Hb2 H2 ((w3.asg i).asg j)⟩
  · rw [q] at p; exact p c dd σ Hb2 H2 w2.drop1 hx
  · rw [q] at p; exact p
def cPar3 (i j l : Nat) (a b c : DE) : DS := fun e => (a e).toS fun m e1 => (b e1).toS fun n e2 => (c e2).toS fun o e3 => .nx (((e3.asg i m).asg j n).asg l o)
theorem ss_par3 {i j l : Nat} {ta tb tc : TE} {a b c : DE} (h1 : SimE K E ta a) (h2 : SimE K E tb b) (h3 : SimE K E tc c) : SimS K E (tPar3 i j l (tCons ta (tCons tb (tCons tc tNil)))) (cPar3 i j l a b c) := by
  intro σ vs Hb H e fr D w hq
  refine toS_run (k := fun m e1 => (b e1).toS fun n e2 => (c e2).toS fun o e3 => .nx (((e3.asg i m).asg j n).asg l o)) h1 w hq fun m e1 v Hb1 H1 w1 p => ?_
  refine h2.run w1 (fun n e2 q u Hb2 H2 w2 => ?_) (fun x e2 q c dd Hb2 H2 w2 hx => ?_) fun q => ?_
  · rw [q] at p
    have p' : PostS K E vs fr D ((c e2).toS fun o e3 => .nx (((e3.asg i m).asg j n).asg l o)) := p
    refine h3.run w2 (fun o e3 q u3 Hb3 H3 w3 => ?_) (fun x e3 q c dd Hb3 H3 w3 hx => ?_) fun q => ?_
    · rw [q] at p'
      have w4 : Wld K Hb3 H3 σ vs e3 ((some v, m) :: (some u, n) :: (some u3, o) :: fr) := w3.perm (by
        refine (List.Perm.cons _ (List.Perm.swap _ _ _)).trans ?_
        refine (List.Perm.swap _ _ _).trans (List.Perm.cons _ (List.Perm.swap _ _ _)))
      exact ⟨v, u, u3, rfl, p' _ Hb3 H3 (((w4.asg i).asg j).asg l)⟩
    · rw [q] at p'; exact p' c dd σ Hb3 H3 w3.drop1.drop1 hx
    · rw [q] at p'; exact p'
  · rw [q] at p; exact p c dd σ Hb2 H2 w2.drop1 hx
  · rw [q] at p; exact p
/-- x op= e, whole numbers -/
def cAug (i : Nat) (f : Int → Int → Int) (d : DE) : DS := fun e => match asI (e.get i) with
  | none => .bad
  | some a => (d e).toS fun m e1 => match asI m with
    | some b => .nx (e1.asg i (.val (.int (f a b))))
    | none => .bad
theorem ss_aug {i : Nat} {f : Int → Int → Int} {t : TE} {d : DE} (h : SimE K E t d) : SimS K E (tAug i t (ipI f)) (cAug i f d) := by
  intro σ vs Hb H e fr D w hq
  have h0 : PostS K E vs fr D (match asI (e.get i) with
    | none => .bad
    | some a => (d e).toS fun m e1 => match asI m with
      | some b => .nx (e1.asg i (.val (.int (f a b))))
      | none => .bad) := hq
  cases qi : asI (e.get i) with
  | none => rw [qi] at h0; exact h0.elim
  | some a =>
    rw [qi] at h0
    have eg := asI_inv qi
    obtain ⟨v, hv, g, r⟩ := w.slot (i := i) (by rw [eg]; rfl)
    rw [eg] at r
    cases dp_int r.2
    refine ⟨.int a, hv, ?_⟩
    refine toS_run (k := fun m e1 => match asI m with
      | some b => .nx (e1.asg i (.val (.int (f a b))))
      | none => .bad) h w h0 fun m e1 v Hb1 H1 w1 p => ?_
    cases qm : asI m with
    | none => rw [qm] at p; exact p.elim
    | some b =>
      rw [qm] at p
      have em := asI_inv qm
      subst em
      obtain ⟨g, r⟩ := w1.front.head
      refine ⟨a, b, rfl, dp_int r.2, p _ Hb1 H1 (Wld.asg ?_ i)⟩
      exact w1.drop1.back (w1.drop1.own.val (.int _))
/-! ### stores -/
def putFl (f : Str) (x : Fl) : List (Str × Fl) → List (Str × Fl)
  | [] => [(f, x)]
  | (g, y) :: r => if g = f then (g, x) :: r else (g, y) :: putFl f x r
theorem rfs_put {Hb H : Hp} {f : Str} {v : V} {x : Fl} {u : List Addr} (rx : RFl K Hb H v x u) : ∀ {ws : List (Str × V)} {fs : List (Str × Fl)} {F : List Addr}, RFs K Hb H ws fs F → (∀ p ∈ u, p ∉ F) →
    ∃ F', RFs K Hb H (putF f v ws) (putFl f x fs) F' ∧ ∀ p ∈ F', p ∈ F ∨ p ∈ u
  | _, _, _, .nil, d => ⟨_, .cons rx .nil (fun p hp => by simp), fun p hp => by simp at hp; exact .inr hp⟩
  | _, _, _, .cons (n := n) (v := v') (x := y) (ws := ws) (fs := fs) (f := g1) (g := g2) r t dd, d => by
    by_cases c : n = f
    · have e1 : putF f v ((n, v') :: ws) = (n, v) :: ws := by show (if n = f then _ else _) = _; rw [if_pos c]
      have e2 : putFl f x ((n, y) :: fs) = (n, x) :: fs := by show (if n = f then _ else _) = _; rw [if_pos c]
      rw [e1, e2]
      exact ⟨_, .cons rx t fun p hp hq => d p hp (List.mem_append_right _ hq), fun p hp => by
        rcases List.mem_append.mp hp with h | h
        · exact .inr h
        · exact .inl (List.mem_append_right _ h)⟩
    · have e1 : putF f v ((n, v') :: ws) = (n, v') :: putF f v ws := by show (if n = f then _ else _) = _; rw [if_neg c]
      have e2 : putFl f x ((n, y) :: fs) = (n, y) :: putFl f x fs := by show (if n = f then _ else _) = _; rw [if_neg c]
      rw [e1, e2]
      obtain ⟨F', h1, h2⟩ := rfs_put (f := f) rx t fun p hp hq => d p hp (List.mem_append_right _ hq)
      refine ⟨_, .cons r h1 fun p hp hq => ?_, fun p hp => ?_⟩
      · rcases h2 p hq with z | z
        · exact dd p hp z
        · exact d p z (List.mem_append_left _ hp)
      · rcases List.mem_append.mp hp with h | h
        · exact .inl (List.mem_append_left _ h)
        · rcases h2 p h with z | z
          · exact .inl (List.mem_append_right _ z)
          · exact .inr z
theorem RFs.length {Hb H : Hp} {ws : List (Str × V)} {fs : List (Str × Fl)} {f : List Addr} (h : RFs K Hb H ws fs f) : ws.length = fs.length := by
  induction h with
  | nil => rfl
  | cons _ _ _ ih => simp [ih]
theorem own_fld {Hb H : Hp} {es : List Ent} {v y : V} {C : Addr} {fs : List (Str × Fl)} {x : Fl} {f : Str} (o : Own K Hb H ((some v, .ins C fs) :: (some y, .fl x) :: es)) :
    ∃ a dx ws, v = .ref a ∧ H a = some (.ins C dx ws) ∧ ws.length = fs.length ∧ Own K Hb (upd H a (.ins C dx (putF f y ws))) ((some v, .ins C (putFl f x fs)) :: es) := by
  obtain ⟨s, F, h⟩ := o
  cases h with
  | cons r t d =>
    cases t with
    | cons r2 t2 d2 =>
      rename_i u g2
      obtain ⟨a, dx, ws, g, rfl, rfl, e3, e4, e5, e6⟩ := r
      have r2' : RFl K Hb H y x u := r2
      refine ⟨a, dx, ws, rfl, e4, e5.length, ?_⟩
      have hk : Keep [a] Hb H Hb (upd H a (.ins C dx (putF f y ws))) := ⟨fun _ _ e => e, fun p o e n => by rw [upd_ne (by simpa using n)]; exact e, fun p o e => by
        rw [upd_ne (fun z => by rw [z, e3] at e; cases e)]; exact s _ _ e, fun _ h1 h2 => absurd h1 h2⟩
      have k5 : RFs K Hb (upd H a (.ins C dx (putF f y ws))) ws fs g := e5.keep hk fun p hp hq => by
        have : p = a := by simpa using hp
        subst this; exact e6 hq
      have k2 : RFl K Hb (upd H a (.ins C dx (putF f y ws))) y x u := r2'.keep hk fun p hp hq => by
        have : p = a := by simpa using hp
        subst this; exact d p (by simp) (List.mem_append_left _ hq)
      have kt : OwnF K Hb (upd H a (.ins C dx (putF f y ws))) es _ := t2.keep hk fun p hp hq => by
        have : p = a := by simpa using hp
        subst this; exact d p (by simp) (List.mem_append_right _ hq)
      obtain ⟨F', h1, h2⟩ := rfs_put (f := f) k2 k5 fun p hp hq => d p (List.mem_cons_of_mem _ hq) (List.mem_append_left _ hp)
      refine ⟨hk.sub, _, .cons (f := a :: F') ⟨a, dx, _, F', rfl, rfl, e3, upd_same, h1, fun hp => ?_⟩ kt fun p hp hq => ?_⟩
      · rcases h2 a hp with z | z
        · exact e6 z
        · exact d a (by simp) (List.mem_append_left _ z)
      · rcases List.mem_cons.mp hp with z | z
        · subst z; exact d p (by simp) (List.mem_append_right _ hq)
        · rcases h2 p z with y | y
          · exact d p (List.mem_cons_of_mem _ y) (List.mem_append_right _ hq)
          · exact d2 p y hq
/-- o.f = e -/
def cSetF (C : Addr) (i : Nat) (f : Str) (d : DE) : DS := fun e => (d e).toS fun m e1 => match m, e1.get i with
  | .fl x, .ins D fs => (match decide (D = C ∧ fs.length < 1000) with
    | true => .nx (e1.put i (.ins D (putFl f x fs)))
    | false => .bad)
  | _, _ => .bad
theorem put_put {e : Env} {i : Nat} {m m' : M} (h : (e.get i).isHole = false) : (e.put i m').put i m = e.put i m := by
  unfold Env.put
  cases qs : getS e.s i with
  | own x =>
    have hi : i < e.s.length := by
      apply Classical.byContradiction; intro z
      have : e.get i = .hole := by unfold Env.get; rw [getS_out (Nat.le_of_not_lt z)]
      rw [this] at h; cases h
    have : getS (e.s.set i (.own m')) i = .own m' := getS_set hi
    simp only [this, List.set_set]
  | bor k => simp only [qs, List.set_set]
theorem ss_setF {C : Addr} {i : Nat} {f : Str} {t : TE} {d : DE} (c : Cls K C) (nf : NoAttr K C f) (h : SimE K E t d) : SimS K E (sFld K (tVar i) t f) (cSetF C i f d) := by
  intro σ vs Hb H e fr D w hq
  refine toS_run (k := fun m e1 => match m, e1.get i with
    | .fl x, .ins D fs => (match decide (D = C ∧ fs.length < 1000) with
      | true => .nx (e1.put i (.ins D (putFl f x fs)))
      | false => .bad)
    | _, _ => .bad) h w hq fun m e1 y Hb1 H1 w1 p => ?_
  cases qg : e1.get i with
  | fl z => rw [qg] at p; cases m <;> exact p.elim
  | ins D' fs =>
    rw [qg] at p
    cases m with
    | ins _ _ => exact p.elim
    | fl x =>
      have p' : PostS K E vs fr D (match decide (D' = C ∧ fs.length < 1000) with
        | true => .nx (e1.put i (.ins D' (putFl f x fs)))
        | false => .bad) := p
      cases qd : decide (D' = C ∧ fs.length < 1000) with
      | false => rw [qd] at p'; exact p'.elim
      | true =>
        rw [qd] at p'
        obtain ⟨rfl, hl⟩ := of_decide_eq_true qd
        have hh : (e1.get i).isHole = false := by rw [qg]; rfl
        obtain ⟨v, hv, w2⟩ := w1.take hh
        rw [qg] at w2
        have o : Own K Hb1 H1 ((some v, .ins D' fs) :: (some y, .fl x) :: (e1.put i .hole).ents σ vs fr) := (w2.own.perm (ents_cons _ σ vs).symm).perm (List.Perm.cons _ (ents_cons _ σ vs).symm)
        obtain ⟨a, dx, ws, rfl, g1, g2, g3⟩ := own_fld (f := f) o
        refine ⟨.ref a, hv, a, D', dx, ws, rfl, g1, c, nf, by rw [g2]; exact hl, p' σ Hb1 _ ?_⟩
        have w3 : Wld K Hb1 (upd H1 a (.ins D' dx (putF f y ws))) σ vs (e1.put i .hole) ((some (.ref a), .ins D' (putFl f x fs)) :: fr) := w2.fr1 (g3.perm (ents_cons _ σ vs))
        have w4 := w3.put hv
        rw [put_put hh] at w4
        exact w4
end
end Sm

/-! Sim7: loops, comprehensions, defs. -/
namespace Sm
open PySem PySem.Spec PyProof.Rows L2
section
variable {K : PySem.W.Frag} {E : XK}
/-! ### what is walked -/
def Walks (K : PySem.W.Frag) (J : It) (ds : List PyData) (X : List Ent) : Prop := ∀ Hb H es i, Own K Hb H (X ++ es) →
  (∀ d, ds[i]? = some d → J.go i H ∧ ∀ x H', J.yld i H x H' → ∃ Hb', Own K Hb' H' ((some x, .val d) :: (X ++ es))) ∧ (ds.length ≤ i → J.stop i H)
abbrev DI := Env → RE (List PyData)
def PostI (K : PySem.W.Frag) (E : XK) (σ : L2.St) (vs : List V) (fr : List Ent) (R : It → Hp → Prop) : RE (List PyData) → Prop
  | .ok ds e => ∀ J X Hb H, Walks K J ds X → Wld K Hb H σ vs e (X ++ fr) → R J H
  | .exc x e => ∀ c d Hb H, Wld K Hb H σ vs e fr → ExcAt H x c d → E c d H
  | .bad => False
def SimI (K : PySem.W.Frag) (E : XK) (w : TI) (d : DI) : Prop := ∀ σ vs Hb H e fr R, Wld K Hb H σ vs e fr → PostI K E σ vs fr R (d e) → w σ H R
/-- a sequence, by an expression -/
def iSeq (g : M → Option (List PyData)) (d : DE) : DI := fun e => (d e).bind fun m e1 => match g m with
  | some ds => .ok ds e1
  | none => .bad
def tupOf : M → Option (List PyData)
  | .fl (.val (.tuple ds)) => some ds
  | _ => none
theorem own_head_app {Hb H : Hp} {x : Ent} {es : List Ent} (o : Own K Hb H ([x] ++ es)) : ∃ f, RO K Hb H x.1 x.2 f := Own.head o
theorem si_run {t : TE} {d : DE} {g : M → Option (List PyData)} {C : V → Hp → (It → Hp → Prop) → Prop} (h : SimE K E t d)
    (hC : ∀ Hb H v m ds f R, g m = some ds → Same Hb H → RM K Hb H v m f → (∀ J, Walks K J ds [(some v, m)] → R J H) → C v H R) : SimI K E (fun σ H R => t σ H fun x H1 => C x H1 R) (iSeq g d) := by
  intro σ vs Hb H e fr R w hq
  have h0 : PostI K E σ vs fr R ((d e).bind fun m e1 => match g m with
    | some ds => .ok ds e1
    | none => .bad) := hq
  refine h.run w (fun m e1 q v Hb1 H1 w1 => ?_) (fun x e1 q => ?_) fun q => ?_
  · rw [q] at h0
    have h1 : PostI K E σ vs fr R (match g m with
      | some ds => .ok ds e1
      | none => .bad) := h0
    cases qg : g m with
    | none => rw [qg] at h1; exact h1.elim
    | some ds =>
      rw [qg] at h1
      obtain ⟨f, r⟩ := w1.front.head
      exact hC Hb1 H1 v m ds f R qg w1.same r fun J hJ => h1 J [(some v, m)] Hb1 H1 hJ w1
  · rw [q] at h0; exact h0
  · rw [q] at h0; exact h0
theorem tupOf_inv {m : M} {ds : List PyData} (h : tupOf m = some ds) : m = .val (.tuple ds) := by
  unfold tupOf at h
  split at h
  · cases h; rfl
  · cases h
theorem walks_tup {a : Addr} {ds : List PyData} : Walks K (Itt K a) ds [(some (.ref a), .val (.tuple ds))] := by
  intro Hb H es i o
  obtain ⟨f, r⟩ := own_head_app o
  obtain ⟨b, xs, e, h1, h2⟩ := dp_tup r.2
  cases e
  have hq : SqT K H a xs := (h1.same o.1).sq
  refine ⟨fun d hd => ?_, fun hl => ⟨xs, hq, by rw [DpAll.length h2]; exact hl⟩⟩
  obtain ⟨y, hy, ry⟩ := dpAll_get h2 hd
  refine ⟨⟨xs, y, hq, hy⟩, fun x H' hx => ?_⟩
  obtain ⟨rfl, hx⟩ := hx
  have := hx xs hq
  rw [hy] at this
  cases this
  exact ⟨Hb, o.val ry⟩
theorem si_tup {t : TE} {d : DE} (h : SimE K E t d) : SimI K E (iTup K t) (iSeq tupOf d) := by
  refine si_run (C := fun x H1 R => ∃ a, x = .ref a ∧ (∃ xs, SqT K H1 a xs) ∧ R (Itt K a) H1) h fun Hb H v m ds f R hg s r k => ?_
  cases tupOf_inv hg
  obtain ⟨a, xs, rfl, h1, h2⟩ := dp_tup r.2
  exact ⟨a, rfl, ⟨xs, (h1.same s).sq⟩, k _ walks_tup⟩
theorem walks_lst {a : Addr} {m : M} {ds : List PyData} (hm : lstOf m = some ds) : Walks K (Itl K a) ds [(some (.ref a), m)] := by
  intro Hb H es i o
  obtain ⟨f, r⟩ := own_head_app o
  obtain ⟨b, xs, e, h1, h2⟩ := lst_dp o.1 r hm
  cases e
  have hq : SqL K H a xs := h1
  refine ⟨fun d hd => ?_, fun hl => ⟨xs, hq, by rw [DpAll.length h2]; exact hl⟩⟩
  obtain ⟨y, hy, ry⟩ := dpAll_get h2 hd
  refine ⟨⟨xs, y, hq, hy⟩, fun x H' hx => ?_⟩
  obtain ⟨rfl, hx⟩ := hx
  have := hx xs hq
  rw [hy] at this
  cases this
  exact ⟨Hb, o.val ry⟩
theorem si_lst {t : TE} {d : DE} (h : SimE K E t d) : SimI K E (iList K t) (iSeq lstOf d) := by
  refine si_run (C := fun x H1 R => ∃ a, x = .ref a ∧ (∃ xs, SqL K H1 a xs) ∧ R (Itl K a) H1) h fun Hb H v m ds f R hg s r k => ?_
  obtain ⟨a, xs, rfl, h1, h2⟩ := lst_dp s r hg
  exact ⟨a, rfl, ⟨xs, h1⟩, k _ (walks_lst hg)⟩
/-- enumerate -/
def enumD : Nat → List PyData → List PyData
  | _, [] => []
  | i, d :: ds => .tuple [.int i, d] :: enumD (i + 1) ds
theorem enumD_get : ∀ {ds : List PyData} {n i : Nat}, (enumD n ds)[i]? = (ds[i]?).map fun d => .tuple [.int ((n + i : Nat) : Int), d]
  | [], _, _ => by simp [enumD]
  | d :: ds, n, 0 => by simp [enumD]
  | d :: ds, n, i + 1 => by
    show (enumD (n + 1) ds)[i]? = _
    rw [enumD_get, show n + 1 + i = n + (i + 1) by omega]; rfl
theorem enumD_length : ∀ {ds : List PyData} {n : Nat}, (enumD n ds).length = ds.length
  | [], _ => rfl
  | d :: ds, n => by simp [enumD, enumD_length]
theorem walks_enumT {a : Addr} {ds : List PyData} : Walks K (IteT K a) (enumD 0 ds) [(some (.ref a), .val (.tuple ds))] := by
  intro Hb H es i o
  obtain ⟨f, r⟩ := own_head_app o
  obtain ⟨b, xs, e, h1, h2⟩ := dp_tup r.2
  cases e
  have hq : SqT K H a xs := (h1.same o.1).sq
  refine ⟨fun d hd => ?_, fun hl => ⟨xs, hq, by rw [DpAll.length h2, ← enumD_length (n := 0)]; exact hl⟩⟩
  rw [enumD_get] at hd
  cases qd : ds[i]? with
  | none => rw [qd] at hd; cases hd
  | some d0 =>
    rw [qd] at hd
    cases hd
    obtain ⟨y, hy, ry⟩ := dpAll_get h2 qd
    refine ⟨⟨xs, y, hq, hy⟩, fun x H' hx => ?_⟩
    obtain ⟨T, z, ob, rfl, hbT, hT, rfl, hz⟩ := hx
    have := hz xs hq
    rw [hy] at this
    cases this
    have e0 : ((0 + i : Nat) : Int) = (i : Int) := by omega
    rw [e0]
    exact ⟨_, own_tup o hbT hT (.cons (.int _) (.cons ry .nil))⟩
def iSeqA (g : M → Option (List PyData)) (o : OpD) : DI := fun e => (evA [o] e).bind fun ms e1 => match o, ms with
  | .v i, [_] => (match g (e1.get i) with
    | some ds => (match isCopy (e1.get i) with
      | true => .ok ds e1
      | false => .bad)
    | none => .bad)
  | .e _, [m] => (match g m with
    | some ds => .ok ds e1
    | none => .bad)
  | _, _ => .bad
def eOf : OpD → DE
  | .e d => d
  | .v i => cV i
/-- enumerate(t) of a tuple, by an expression -/
theorem si_enumT {t : TE} {d : DE} (h : SimE K E t d) : SimI K E (iEnumT K (tCons t tNil)) (iSeq (fun m => (tupOf m).map (enumD 0)) d) := by
  refine si_run (C := fun x H1 R => ∃ a xs, [x] = [V.ref a] ∧ SqT K H1 a xs ∧ R (IteT K a) H1) h fun Hb H v m ds f R hg s r k => ?_
  cases q : tupOf m with
  | none => rw [q] at hg; cases hg
  | some es =>
    rw [q] at hg; cases hg
    cases tupOf_inv q
    obtain ⟨a, xs, rfl, h1, h2⟩ := dp_tup r.2
    exact ⟨a, xs, rfl, (h1.same s).sq, k _ walks_enumT⟩
theorem walks_enumL {a : Addr} {m : M} {ds : List PyData} (hm : lstOf m = some ds) : Walks K (IteN K a) (enumD 0 ds) [(some (.ref a), m)] := by
  intro Hb H es i o
  obtain ⟨f, r⟩ := own_head_app o
  obtain ⟨b, xs, e, h1, h2⟩ := lst_dp o.1 r hm
  cases e
  have hq : SqL K H a xs := h1
  refine ⟨fun d hd => ?_, fun hl => ⟨xs, hq, by rw [DpAll.length h2, ← enumD_length (n := 0)]; exact hl⟩⟩
  rw [enumD_get] at hd
  cases qd : ds[i]? with
  | none => rw [qd] at hd; cases hd
  | some d0 =>
    rw [qd] at hd
    cases hd
    obtain ⟨y, hy, ry⟩ := dpAll_get h2 qd
    refine ⟨⟨xs, y, hq, hy⟩, fun x H' hx => ?_⟩
    obtain ⟨T, z, ob, rfl, hbT, hT, rfl, hz⟩ := hx
    have := hz xs hq
    rw [hy] at this
    cases this
    have e0 : ((0 + i : Nat) : Int) = (i : Int) := by omega
    rw [e0]
    exact ⟨_, own_tup o hbT hT (.cons (.int _) (.cons ry .nil))⟩
/-- range -/
def rngD (lo : Int) : Nat → List PyData
  | 0 => []
  | n + 1 => .int lo :: rngD (lo + 1) n
theorem rngD_get : ∀ {n i : Nat} {lo : Int}, (rngD lo n)[i]? = if i < n then some (.int (lo + i)) else none
  | 0, i, lo => by simp [rngD]
  | n + 1, 0, lo => by simp [rngD]
  | n + 1, i + 1, lo => by
    show (rngD (lo + 1) n)[i]? = _
    rw [rngD_get]
    by_cases h : i < n
    · rw [if_pos h, if_pos (by omega)]
      have : lo + 1 + (i : Int) = lo + ((i + 1 : Nat) : Int) := by omega
      rw [this]
    · rw [if_neg h, if_neg (by omega)]
theorem rngD_length : ∀ {n : Nat} {lo : Int}, (rngD lo n).length = n
  | 0, _ => rfl
  | n + 1, lo => by simp [rngD, rngD_length]
theorem walks_rng {lo : Int} {n : Nat} : Walks K (Itr lo n) (rngD lo n) [] := by
  intro Hb H es i o
  refine ⟨fun d hd => ?_, fun hl => by rw [rngD_length] at hl; exact hl⟩
  rw [rngD_get] at hd
  by_cases h : i < n
  · rw [if_pos h] at hd
    cases hd
    refine ⟨h, fun x H' hx => ?_⟩
    obtain ⟨rfl, rfl⟩ := hx
    exact ⟨Hb, o.val (.int _)⟩
  · rw [if_neg h] at hd; cases hd
def b62 (j : Int) : Bool := decide (j.natAbs < 2305843009213693952)
theorem b62_ok {j : Int} (h : b62 j = true) : -(2 ^ 62) ≤ j ∧ j < 2 ^ 62 := by
  have h' := of_decide_eq_true h
  rw [p62]; omega
def int1 : List M → Option Int
  | [.fl (.val (.int j))] => (match b62 j with
    | true => some j
    | false => none)
  | _ => none
theorem int1_inv {ms : List M} {j : Int} (h : int1 ms = some j) : ms = [.val (.int j)] ∧ b62 j = true := by
  unfold int1 at h
  split at h
  · split at h
    · rename_i q; cases h; exact ⟨rfl, q⟩
    · cases h
  · cases h
def int2 : List M → Option (Int × Int)
  | [.fl (.val (.int i)), .fl (.val (.int j))] => (match b62 i && b62 j with
    | true => some (i, j)
    | false => none)
  | _ => none
theorem int2_inv {ms : List M} {i j : Int} (h : int2 ms = some (i, j)) : ms = [.val (.int i), .val (.int j)] ∧ (b62 i && b62 j) = true := by
  unfold int2 at h
  split at h
  · split at h
    · rename_i q; cases h; exact ⟨rfl, q⟩
    · cases h
  · cases h
def iRng1D (os : List OpD) : DI := fun e => (evA os e).bind fun ms e1 => match int1 ms with
  | some j => .ok (rngD 0 j.toNat) e1
  | none => .bad
theorem si_rng1 {t : TA} {os : List OpD} (h : SimA K E t os) : SimI K E (iRng1 t) (iRng1D os) := by
  intro σ vs Hb H e fr R w hq
  have h0 : PostI K E σ vs fr R ((evA os e).bind fun ms e1 => match int1 ms with
    | some j => .ok (rngD 0 j.toNat) e1
    | none => .bad) := hq
  refine h σ vs Hb H e fr _ w ?_
  cases q : evA os e with
  | bad => rw [q] at h0; exact h0.elim
  | exc x e1 => rw [q] at h0; exact h0
  | ok ms e1 =>
    rw [q] at h0
    intro us es Hb1 H1 a w1
    have rp := a.reps w1
    have h1 : PostI K E σ vs fr R (match int1 ms with
      | some j => .ok (rngD 0 j.toNat) e1
      | none => .bad) := h0
    cases qi : int1 ms with
    | none => rw [qi] at h1; exact h1.elim
    | some j =>
      rw [qi] at h1
      obtain ⟨em, qb⟩ := int1_inv qi
      rw [em] at rp
      obtain ⟨u, f, rfl, r⟩ := reps1 rp
      cases dp_int r.2
      obtain ⟨b1, b2⟩ := b62_ok qb
      exact ⟨j, rfl, b1, b2, h1 _ [] Hb1 H1 walks_rng (Wld.drop (es := es) w1)⟩
def iRng2D (os : List OpD) : DI := fun e => (evA os e).bind fun ms e1 => match int2 ms with
  | some (i, j) => .ok (rngD i (j - i).toNat) e1
  | none => .bad
theorem si_rng2 {t : TA} {os : List OpD} (h : SimA K E t os) : SimI K E (iRng2 t) (iRng2D os) := by
  intro σ vs Hb H e fr R w hq
  have h0 : PostI K E σ vs fr R ((evA os e).bind fun ms e1 => match int2 ms with
    | some (i, j) => .ok (rngD i (j - i).toNat) e1
    | none => .bad) := hq
  refine h σ vs Hb H e fr _ w ?_
  cases q : evA os e with
  | bad => rw [q] at h0; exact h0.elim
  | exc x e1 => rw [q] at h0; exact h0
  | ok ms e1 =>
    rw [q] at h0
    intro us es Hb1 H1 a w1
    have rp := a.reps w1
    have h1 : PostI K E σ vs fr R (match int2 ms with
      | some (i, j) => .ok (rngD i (j - i).toNat) e1
      | none => .bad) := h0
    cases qi : int2 ms with
    | none => rw [qi] at h1; exact h1.elim
    | some z =>
      obtain ⟨i, j⟩ := z
      rw [qi] at h1
      obtain ⟨em, qb⟩ := int2_inv qi
      rw [em] at rp
      obtain ⟨u, v, f, g, rfl, r1, r2⟩ := reps2 rp
      cases dp_int r1.2
      cases dp_int r2.2
      obtain ⟨q1, q2⟩ := Bool.and_eq_true_iff.mp qb
      obtain ⟨b1, b2⟩ := b62_ok q1
      obtain ⟨b3, b4⟩ := b62_ok q2
      exact ⟨i, j, rfl, ⟨b1, b2, b3, b4⟩, h1 _ [] Hb1 H1 walks_rng (Wld.drop (es := es) w1)⟩
theorem ents_app (e : Env) (σ : L2.St) (vs : List V) : ∀ X fr : List Ent, (X ++ e.ents σ vs fr).Perm (e.ents σ vs (X ++ fr))
  | [], _ => List.Perm.refl _
  | x :: X, fr => (List.Perm.cons x (ents_app e σ vs X fr)).trans (ents_cons e σ vs)
/-! ### for -/
def forD (g : DG) (body : DS) : List PyData → Env → RS
  | [], e => .nx e
  | d :: ds, e => match g d e with
    | none => .bad
    | some e1 => match body e1 with
      | .nx e2 => forD g body ds e2
      | .ct e2 => forD g body ds e2
      | .brk e2 => .nx e2
      | .ret m e2 => .ret m e2
      | .exc x e2 => .exc x e2
      | .bad => .bad
def cFor (it : DI) (g : DG) (body : DS) : DS := fun e => (it e).toS fun ds e1 => forD g body ds e1
theorem PostS.drop {vs : List V} {X fr : List Ent} {D : Ends} {r : RS} (h : PostS K E vs fr D r) : PostS K E vs (X ++ fr) D r := by
  cases r with
  | nx e => exact fun σ Hb H w => h σ Hb H w.drop
  | ret m e => exact fun v σ Hb H w => h v σ Hb H (Wld.drop (es := X) (w.perm (by exact List.perm_middle.symm)))
  | exc x e => exact fun c d σ Hb H w hx => h c d σ Hb H w.drop hx
  | brk e => exact fun σ Hb H w => h σ Hb H w.drop
  | ct e => exact fun σ Hb H w => h σ Hb H w.drop
  | bad => exact h
theorem ss_for {wi : TI} {g : TG} {tb : TS} {it : DI} {dg : DG} {body : DS} (hi : SimI K E wi it) (hg : SimG K g dg) (hb : SimS K E tb body) : SimS K E (tFor wi g tb) (cFor it dg body) := by
  intro σ vs Hb H e fr D w hq
  have h0 : PostS K E vs fr D ((it e).toS fun ds e1 => forD dg body ds e1) := hq
  refine hi σ vs Hb H e fr _ w ?_
  cases q : it e with
  | bad => rw [q] at h0; exact h0.elim
  | exc x e1 => rw [q] at h0; exact fun c d Hb1 H1 w1 hx => h0 c d σ Hb1 H1 w1 hx
  | ok ds e1 =>
    rw [q] at h0
    intro J X Hb1 H1 hJ w1
    have h1 : PostS K E vs (X ++ fr) D (forD dg body ds e1) := PostS.drop h0
    refine ⟨fun i m σ H => m = ds.length - i ∧ i ≤ ds.length ∧ ∃ Hb e, Wld K Hb H σ vs e (X ++ fr) ∧ PostS K E vs (X ++ fr) D (forD dg body (ds.drop i) e), ⟨ds.length, by simp, Nat.zero_le _, Hb1, e1, w1, by simpa using h1⟩, ?_⟩
    rintro i m σ2 H2 ⟨rfl, hi2, Hb2, e2, w2, p2⟩
    have o2 : Own K Hb2 H2 (X ++ (e2.ents σ2 vs fr)) := w2.own.perm (ents_app e2 σ2 vs X fr).symm
    obtain ⟨hgo, hstop⟩ := hJ Hb2 H2 _ i o2
    by_cases hlt : i < ds.length
    · right
      have hd : ds[i]? = some ds[i] := List.getElem?_eq_getElem hlt
      obtain ⟨h3, h4⟩ := hgo _ hd
      have hdrop : ds.drop i = ds[i] :: ds.drop (i + 1) := List.drop_eq_getElem_cons hlt
      rw [hdrop] at p2
      have p3 : PostS K E vs (X ++ fr) D (match dg ds[i] e2 with
        | none => .bad
        | some e1 => match body e1 with
          | .nx e2 => forD dg body (ds.drop (i + 1)) e2
          | .ct e2 => forD dg body (ds.drop (i + 1)) e2
          | .brk e2 => .nx e2
          | .ret m e2 => .ret m e2
          | .exc x e2 => .exc x e2
          | .bad => .bad) := p2
      refine ⟨h3, fun σ H => ∃ Hb e, Wld K Hb H σ vs e (X ++ fr) ∧ PostS K E vs (X ++ fr) D (forD dg body (ds.drop (i + 1)) e), fun σ' H' hN => ⟨ds.length - (i + 1), by omega, rfl, hlt, hN⟩, fun x H' hy => ?_⟩
      obtain ⟨Hb3, o3⟩ := h4 x H' hy
      have w0 : Wld K Hb3 H' σ2 vs e2 (X ++ fr) := w2.fr1 (o3.tail.perm (ents_app e2 σ2 vs X fr))
      have w3 : Wld K Hb3 H' σ2 vs e2 ((some x, .val ds[i]) :: (X ++ fr)) := w0.back (o3.perm (List.Perm.cons _ (ents_app e2 σ2 vs X fr)))
      cases qg : dg ds[i] e2 with
      | none => rw [qg] at p3; exact p3.elim
      | some e3 =>
        rw [qg] at p3
        refine hg σ2 vs Hb3 H' e2 (X ++ fr) x _ _ w3 ⟨e3, qg, fun σ' Hb' H'' w4 => ?_⟩
        have p4 : PostS K E vs (X ++ fr) D (match body e3 with
          | .nx e2 => forD dg body (ds.drop (i + 1)) e2
          | .ct e2 => forD dg body (ds.drop (i + 1)) e2
          | .brk e2 => .nx e2
          | .ret m e2 => .ret m e2
          | .exc x e2 => .exc x e2
          | .bad => .bad) := p3
        refine hb σ' vs Hb' H'' e3 (X ++ fr) _ w4 ?_
        cases qb : body e3 with
        | nx e4 => rw [qb] at p4; exact fun σ5 Hb5 H5 w5 => ⟨Hb5, e4, w5, p4⟩
        | ct e4 => rw [qb] at p4; exact fun σ5 Hb5 H5 w5 => ⟨Hb5, e4, w5, p4⟩
        | brk e4 => rw [qb] at p4; exact p4
        | ret m e4 => rw [qb] at p4; exact p4
        | exc x e4 => rw [qb] at p4; exact p4
        | bad => rw [qb] at p4; exact p4
    · left
      have : ds.drop i = [] := List.drop_eq_nil_of_le (by omega)
      rw [this] at p2
      exact ⟨hstop (by omega), p2 σ2 Hb2 H2 w2⟩
/-! ### while -/
def whileD (c : DT) (b : DS) : Nat → Env → RS
  | 0, _ => .bad
  | n + 1, e => (c e).toS fun k e1 => match k with
    | false => .nx e1
    | true => match b e1 with
      | .nx e2 => whileD c b n e2
      | .ct e2 => whileD c b n e2
      | .brk e2 => .nx e2
      | .ret m e2 => .ret m e2
      | .exc x e2 => .exc x e2
      | .bad => .bad
theorem ss_while {c : TT} {tb : TS} {dc : DT} {b : DS} (n : Nat) (hc : SimT K E c dc) (hb : SimS K E tb b) : SimS K E (tWhile c tb) (whileD dc b n) := by
  intro σ vs Hb H e fr D w hq
  refine ⟨fun m σ H => ∃ Hb e, Wld K Hb H σ vs e fr ∧ PostS K E vs fr D (whileD dc b m e), ⟨n, Hb, e, w, hq⟩, ?_⟩
  rintro m σ2 H2 ⟨Hb2, e2, w2, p2⟩
  cases m with
  | zero => exact p2.elim
  | succ m =>
    have p3 : PostS K E vs fr D ((dc e2).toS fun k e1 => match k with
      | false => .nx e1
      | true => match b e1 with
        | .nx e2 => whileD dc b m e2
        | .ct e2 => whileD dc b m e2
        | .brk e2 => .nx e2
        | .ret m e2 => .ret m e2
        | .exc x e2 => .exc x e2
        | .bad => .bad) := p2
    refine toS_runT hc w2 p3 fun k e3 Hb3 H3 w3 p4 => ?_
    cases k with
    | false => exact iteF (p4 σ2 Hb3 H3 w3)
    | true =>
      refine iteT ⟨fun σ H => ∃ Hb e, Wld K Hb H σ vs e fr ∧ PostS K E vs fr D (whileD dc b m e), fun σ' H' hN => ⟨m, Nat.lt_succ_self m, hN⟩, ?_⟩
      have p5 : PostS K E vs fr D (match b e3 with
        | .nx e2 => whileD dc b m e2
        | .ct e2 => whileD dc b m e2
        | .brk e2 => .nx e2
        | .ret m e2 => .ret m e2
        | .exc x e2 => .exc x e2
        | .bad => .bad) := p4
      refine hb σ2 vs Hb3 H3 e3 fr _ w3 ?_
      cases qb : b e3 with
      | nx e4 => rw [qb] at p5; exact fun σ5 Hb5 H5 w5 => ⟨Hb5, e4, w5, p5⟩
      | ct e4 => rw [qb] at p5; exact fun σ5 Hb5 H5 w5 => ⟨Hb5, e4, w5, p5⟩
      | brk e4 => rw [qb] at p5; exact p5
      | ret m e4 => rw [qb] at p5; exact p5
      | exc x e4 => rw [qb] at p5; exact p5
      | bad => rw [qb] at p5; exact p5
end
end Sm

/-! Sim8: comprehensions, defs. -/
namespace Sm
open PySem PySem.Spec PyProof.Rows L2
section
variable {K : PySem.W.Frag} {E : XK}
/-! ### a block's own names forgotten, and told again -/
def wipeS (s : List Slot) : List Nat → List Slot
  | [] => s
  | v :: vs => (wipeS s vs).set v (.own .hole)
def restS (s0 : List Slot) (s : List Slot) : List Nat → List Slot
  | [] => s
  | v :: vs => restS s0 (s.set v (getS s0 v)) vs
def Env.wipe (e : Env) (own : List Nat) : Env := ⟨wipeS e.s own, e.a⟩
def Env.rest (e : Env) (e0 : Env) (own : List Nat) : Env := ⟨restS e0.s e.s own, e.a⟩
def cYes : DT := fun e => .ok true e
theorem st_yes : SimT K E tYes cYes := fun σ vs Hb H e fr Q w h => h Hb H w
theorem wipeS_length (s : List Slot) : ∀ own, (wipeS s own).length = s.length
  | [] => rfl
  | v :: vs => by simp [wipeS, wipeS_length s vs]
/-- one slot forgotten -/
theorem Wld.wipe1 {Hb H : Hp} {σ : L2.St} {vs : List V} {e : Env} {fr : List Ent} {v : Nat} {o : Option V} (w : Wld K Hb H σ vs e fr) (ho : σ[v]? = some o) : Wld K Hb H (σ.set v none) vs ⟨e.s.set v (.own .hole), e.a⟩ ((o, (getS e.s v).cont) :: fr) := by
  have hi : v < e.s.length := by rw [← w.ls]; exact (List.getElem?_eq_some_iff.mp ho).1
  obtain ⟨P, R, o', e0, e1, _, e3⟩ := zipS_at w.ls hi
  rw [ho] at e0
  cases e0
  refine ⟨by simp [w.ls], w.la, fun j k hj => ?_, ?_⟩
  · by_cases z : v = j
    · subst z
      rw [show getS (e.s.set v (.own .hole)) v = .own .hole from getS_set hi] at hj; cases hj
    · rw [show getS (e.s.set v (.own .hole)) j = getS e.s j from getS_set_ne z] at hj
      rw [List.getElem?_set_ne z]
      exact w.bor j k hj
  · show Own K Hb H (entsS (σ.set v none) (e.s.set v (.own .hole)) ++ (entsA vs e.a ++ ((o, (getS e.s v).cont) :: fr)))
    have h := w.own
    rw [e1] at h
    rw [e3]
    have h2 : Own K Hb H ((none, .hole) :: ((P ++ (o, (getS e.s v).cont) :: R) ++ (entsA vs e.a ++ fr))) := h.hole
    refine h2.perm ?_
    have a1 : ((P ++ (o, (getS e.s v).cont) :: R) ++ (entsA vs e.a ++ fr)) = P ++ (o, (getS e.s v).cont) :: (R ++ entsA vs e.a ++ fr) := by simp
    have a2 : ((P ++ ((none : Option V), (Slot.own .hole).cont) :: R) ++ (entsA vs e.a ++ ((o, (getS e.s v).cont) :: fr))) = P ++ (none, .hole) :: ((R ++ entsA vs e.a) ++ (o, (getS e.s v).cont) :: fr) := by simp [Slot.cont]
    rw [a1, a2]
    refine (List.Perm.cons _ List.perm_middle).trans ?_
    refine List.Perm.trans ?_ List.perm_middle.symm
    refine List.Perm.cons _ ?_
    refine List.Perm.trans ?_ (List.Perm.append_left P List.perm_middle.symm)
    refine List.Perm.trans ?_ List.perm_middle.symm
    simp
/-- told again -/
theorem Wld.rest1 {Hb H : Hp} {σ : L2.St} {vs : List V} {e : Env} {fr : List Ent} {v : Nat} {o : Option V} {sl : Slot} (w : Wld K Hb H (σ.set v none) vs e ((o, sl.cont) :: fr)) (ho : σ[v]? = some o)
    (hb : ∀ k, sl = .bor k → ∃ x, vs[k]? = some x ∧ o = some x) : Wld K Hb H σ vs ⟨e.s.set v sl, e.a⟩ fr := by
  have hi : v < e.s.length := by rw [← w.ls, List.length_set]; exact (List.getElem?_eq_some_iff.mp ho).1
  obtain ⟨P, R, o', e0, e1, _, e3⟩ := zipS_at w.ls hi
  have es : (σ.set v none).set v o = σ := by
    apply List.ext_getElem?
    intro j
    by_cases z : v = j
    · subst z
      rw [List.getElem?_set_self (by rw [List.length_set]; exact (List.getElem?_eq_some_iff.mp ho).1), ho]
    · rw [List.getElem?_set_ne z, List.getElem?_set_ne z]
  have e4 := e3 o sl
  rw [es] at e4
  refine ⟨?_, w.la, fun j k hj => ?_, ?_⟩
  · have := w.ls; simpa using this
  · by_cases z : v = j
    · subst z
      rw [show getS (e.s.set v sl) v = sl from getS_set hi] at hj
      obtain ⟨x, h1, h2⟩ := hb k hj
      exact ⟨x, h1, by rw [ho, h2]⟩
    · rw [show getS (e.s.set v sl) j = getS e.s j from getS_set_ne z] at hj
      obtain ⟨x, h1, h2⟩ := w.bor j k hj
      rw [List.getElem?_set_ne z] at h2
      exact ⟨x, h1, h2⟩
  · show Own K Hb H (entsS σ (e.s.set v sl) ++ (entsA vs e.a ++ fr))
    have h := w.front
    rw [show e.ents (σ.set v none) vs fr = entsS (σ.set v none) e.s ++ (entsA vs e.a ++ fr) from rfl, e1] at h
    rw [e4]
    have a1 : ((P ++ (o', (getS e.s v).cont) :: R) ++ (entsA vs e.a ++ fr)) = P ++ (o', (getS e.s v).cont) :: (R ++ entsA vs e.a ++ fr) := by simp
    have a2 : ((P ++ (o, sl.cont) :: R) ++ (entsA vs e.a ++ fr)) = P ++ (o, sl.cont) :: (R ++ entsA vs e.a ++ fr) := by simp
    rw [a1] at h
    rw [a2]
    exact (h.perm (((List.Perm.cons _ List.perm_middle).trans (List.Perm.swap _ _ _)).trans (List.Perm.cons _ List.perm_middle.symm))).tail
/-- what was kept aside -/
def saved (σ : L2.St) (s : List Slot) : List Nat → List Ent
  | [] => []
  | v :: vs => (((wipe σ vs)[v]?).getD none, (getS (wipeS s vs) v).cont) :: saved σ s vs
theorem wipe_w {Hb H : Hp} {σ : L2.St} {vs : List V} {e : Env} {fr : List Ent} (w : Wld K Hb H σ vs e fr) : ∀ own : List Nat, (∀ v ∈ own, v < σ.length) → Wld K Hb H (wipe σ own) vs (e.wipe own) (saved σ e.s own ++ fr)
  | [], _ => w
  | v :: own, hv => by
    have ih := wipe_w w own fun x hx => hv x (List.mem_cons_of_mem _ hx)
    have hl : v < (wipe σ own).length := by rw [wipe_length]; exact hv v (by simp)
    have ho : (wipe σ own)[v]? = some ((wipe σ own)[v]) := List.getElem?_eq_getElem hl
    have := ih.wipe1 ho
    show Wld K Hb H ((wipe σ own).set v none) vs ⟨(wipeS e.s own).set v (.own .hole), e.a⟩ _
    have e1 : saved σ e.s (v :: own) = ((wipe σ own)[v], (getS (wipeS e.s own) v).cont) :: saved σ e.s own := by
      show (((wipe σ own)[v]?).getD none, _) :: _ = _
      rw [ho]; rfl
    rw [e1]
    exact this
theorem restS_length (s0 : List Slot) : ∀ (own : List Nat) (s : List Slot), (restS s0 s own).length = s.length
  | [], _ => rfl
  | v :: vs, s => by simp [restS, restS_length s0 vs]
/-- the slots told again, from the last -/
theorem rest_w {Hb H : Hp} {σ : L2.St} {vs : List V} {s0 : List Slot} {fr : List Ent} (hb0 : ∀ i k, getS s0 i = .bor k → ∃ v, vs[k]? = some v ∧ σ[i]? = some (some v)) (hl0 : σ.length = s0.length) : ∀ (own : List Nat) (e : Env), own.Nodup → (∀ v ∈ own, v < σ.length) →
    Wld K Hb H (wipe σ own) vs e (saved σ s0 own ++ fr) → Wld K Hb H σ vs ⟨restS s0 e.s own, e.a⟩ fr
  | [], e, _, _, w => w
  | v :: own, e, hn, hv, w => by
    have hn' := List.nodup_cons.mp hn
    have hl : v < (wipe σ own).length := by rw [wipe_length]; exact hv v (by simp)
    have ho : (wipe σ own)[v]? = some ((wipe σ own)[v]) := List.getElem?_eq_getElem hl
    have e1 : saved σ s0 (v :: own) = ((wipe σ own)[v], (getS (wipeS s0 own) v).cont) :: saved σ s0 own := by
      show (((wipe σ own)[v]?).getD none, _) :: _ = _
      rw [ho]; rfl
    rw [e1] at w
    have eg : ∀ own' : List Nat, v ∉ own' → getS (wipeS s0 own') v = getS s0 v := by
      intro own'
      induction own' with
      | nil => intro _; rfl
      | cons x xs ih =>
        intro hx
        rw [List.mem_cons, not_or] at hx
        show getS ((wipeS s0 xs).set x _) v = _
        rw [getS_set_ne (fun z => hx.1 z.symm), ih hx.2]
    have es : ∀ own' : List Nat, v ∉ own' → (wipe σ own')[v]? = σ[v]? := by
      intro own'
      induction own' with
      | nil => intro _; rfl
      | cons x xs ih =>
        intro hx
        rw [List.mem_cons, not_or] at hx
        show ((wipe σ xs).set x none)[v]? = _
        rw [List.getElem?_set_ne (fun z => hx.1 z.symm), ih hx.2]
    rw [eg own hn'.1] at w
    have w2 := Wld.rest1 (σ := wipe σ own) (o := (wipe σ own)[v]) (sl := getS s0 v) w ho fun k hk => by
      obtain ⟨x, h1, h2⟩ := hb0 v k hk
      refine ⟨x, h1, ?_⟩
      have := es own hn'.1
      rw [ho, h2] at this
      exact Option.some.inj this
    exact rest_w hb0 hl0 own ⟨e.s.set v (getS s0 v), e.a⟩ hn'.2 (fun x hx => hv x (List.mem_cons_of_mem _ hx)) w2
/-! ### [elt for target in iter if test] -/
def lcD (g : DG) (tst : DT) (elt : DE) (own : List Nat) : List PyData → Env → List PyData → RE (List PyData)
  | [], e, acc => .ok acc e
  | d :: ds, e, acc => match g d e with
    | none => .bad
    | some e1 => match tst e1 with
      | .ok true e2 => (match elt e2 with
        | .ok (.fl (.val y)) e3 => (match decide (acc.length < 16777216) with
          | true => lcD g tst elt own ds (e3.wipe own) (acc ++ [y])
          | false => .bad)
        | _ => .bad)
      | .ok false e2 => lcD g tst elt own ds (e2.wipe own) acc
      | _ => .bad
def cLc (it : DI) (g : DG) (tst : DT) (elt : DE) (own : List Nat) : DE := fun e => (it e).bind fun ds e1 => match decide (own.Nodup ∧ ∀ v ∈ own, v < e1.s.length) with
  | true => (match lcD g tst elt own ds (e1.wipe own) [] with
    | .ok acc e2 => .ok (.lst acc) (e2.rest e1 own)
    | _ => .bad)
  | false => .bad
/-- what a turn has done to the block's own names is forgotten -/
theorem Wld.again {Hb H : Hp} {σ σ2 : L2.St} {vs : List V} {e : Env} {fr : List Ent} {own : List Nat} (w : Wld K Hb H σ2 vs e fr) (hv : ∀ v ∈ own, v < σ2.length) (hs : wipe σ2 own = wipe σ own) : Wld K Hb H (wipe σ own) vs (e.wipe own) fr := by
  have := wipe_w w own hv
  rw [hs] at this
  exact this.drop
theorem wipe_set {σ : L2.St} {i : Nat} {x : Option V} : ∀ {own : List Nat}, i ∈ own → wipe (σ.set i x) own = wipe σ own
  | v :: vs, h => by
    show (wipe (σ.set i x) vs).set v none = (wipe σ vs).set v none
    by_cases c : i ∈ vs
    · rw [wipe_set c]
    · have : i = v := by
        rcases List.mem_cons.mp h with z | z
        · exact z
        · exact absurd z c
      subst this
      have hw : ∀ own' : List Nat, i ∉ own' → wipe (σ.set i x) own' = (wipe σ own').set i x := by
        intro own'
        induction own' with
        | nil => intro _; rfl
        | cons y ys ih =>
          intro hy
          rw [List.mem_cons, not_or] at hy
          show (wipe (σ.set i x) ys).set y none = ((wipe σ ys).set y none).set i x
          rw [ih hy.2, List.set_comm _ _ hy.1]
      rw [hw vs c, List.set_set]
theorem wipe_none {σ : L2.St} : ∀ {own : List Nat} {v : Nat}, v ∈ own → (wipe σ own).set v none = wipe σ own
  | x :: xs, v, h => by
    show ((wipe σ xs).set x none).set v none = (wipe σ xs).set x none
    by_cases c : v = x
    · subst c; rw [List.set_set]
    · have : v ∈ xs := by
        rcases List.mem_cons.mp h with z | z
        · exact absurd z c
        · exact z
      rw [List.set_comm _ _ (Ne.symm c), wipe_none this]
theorem wipe_sub {σ : L2.St} : ∀ {sub own : List Nat}, (∀ v ∈ sub, v ∈ own) → wipe (wipe σ own) sub = wipe σ own
  | [], _, _ => rfl
  | x :: xs, own, h => by
    show (wipe (wipe σ own) xs).set x none = _
    rw [wipe_sub fun v hv => h v (List.mem_cons_of_mem _ hv), wipe_none (h x (by simp))]
theorem wipe_idem {σ : L2.St} {own : List Nat} : wipe (wipe σ own) own = wipe σ own := wipe_sub fun _ h => h
/-- a target that stores the block's own names alone -/
def SimGo (K : PySem.W.Frag) (own : List Nat) (g : TG) (d : DG) : Prop := ∀ σ vs Hb H e fr x y (Q : L2.St → Hp → Prop), Wld K Hb H σ vs e ((some x, .val y) :: fr) → (∃ e1, d y e = some e1 ∧ ∀ σ' Hb' H', wipe σ' own = wipe σ own → Wld K Hb' H' σ' vs e1 fr → Q σ' H') → g x σ H Q
def SimGso (K : PySem.W.Frag) (own : List Nat) (g : TGs) (d : List PyData → Env → Option Env) : Prop := ∀ σ vs Hb H e fr xs ys (Q : L2.St → Hp → Prop), Wld K Hb H σ vs e fr → DpAll K Hb xs ys → (∃ e1, d ys e = some e1 ∧ ∀ σ' Hb' H', wipe σ' own = wipe σ own → Wld K Hb' H' σ' vs e1 fr → Q σ' H') → g xs σ H Q
section
variable {own : List Nat}
theorem sgo_name {i : Nat} (h : i ∈ own := by decide) : SimGo K own (gName i) (gN i) := by
  intro σ vs Hb H e fr x y Q w ⟨e1, h1, h2⟩
  cases h1
  exact h2 _ Hb H (wipe_set h) (w.asg i)
theorem sgso_nil : SimGso K own gNil gsN := by
  intro σ vs Hb H e fr xs ys Q w a ⟨e1, h1, h2⟩
  cases a with
  | nil => cases h1; exact ⟨rfl, h2 σ Hb H rfl w⟩
  | cons _ _ => cases h1
theorem sgso_cons {i : Nat} {u : TGs} {r : List PyData → Env → Option Env} (h : SimGso K own u r) (hi : i ∈ own := by decide) : SimGso K own (gCons (gName i) u) (gsC (gN i) r) := by
  intro σ vs Hb H e fr xs ys Q w a ⟨e1, h1, h2⟩
  cases a with
  | nil => cases h1
  | cons ra ta =>
    refine ⟨_, _, rfl, ?_⟩
    exact h _ vs Hb H _ fr _ _ Q ((w.back (w.own.val ra)).asg i) ta ⟨e1, h1, fun σ' Hb' H' hw w' => h2 σ' Hb' H' (by rw [hw, wipe_set hi]) w'⟩
theorem sgo_tup {n : Nat} {u : TGs} {r : List PyData → Env → Option Env} (h : SimGso K own u r) : SimGo K own (gTup K n u) (gT n r) := by
  intro σ vs Hb H e fr x y Q w ⟨e1, h1, h2⟩
  cases y with
  | tuple ds =>
    have h1' : (match decide (ds.length = n) with
      | true => r ds e
      | false => none) = some e1 := h1
    cases q : decide (ds.length = n) with
    | false => rw [q] at h1'; cases h1'
    | true =>
      rw [q] at h1'
      obtain ⟨f, rr⟩ := w.front.head
      obtain ⟨a, xs, rfl, g1, g2⟩ := dp_tup rr.2
      exact ⟨a, xs, rfl, (g1.same w.same).sq, by rw [DpAll.length g2]; exact of_decide_eq_true q, h σ vs Hb H e fr xs ds Q w.drop1 g2 ⟨e1, h1', h2⟩⟩
  | _ => cases h1
end
theorem lcD_cons {g : DG} {tst : DT} {elt : DE} {own : List Nat} {d : PyData} {ds : List PyData} {e : Env} {acc : List PyData} : lcD g tst elt own (d :: ds) e acc = (match g d e with
    | none => .bad
    | some e1 => match tst e1 with
      | .ok true e2 => (match elt e2 with
        | .ok (.fl (.val y)) e3 => (match decide (acc.length < 16777216) with
          | true => lcD g tst elt own ds (e3.wipe own) (acc ++ [y])
          | false => .bad)
        | _ => .bad)
      | .ok false e2 => lcD g tst elt own ds (e2.wipe own) acc
      | _ => .bad) := rfl
theorem se_lc {wi : TI} {g : TG} {tt : TT} {te : TE} {it : DI} {dg : DG} {tst : DT} {elt : DE} {own : List Nat} (hi : SimI K E wi it) (hg : SimGo K own g dg) (ht : SimT K E0 tt tst) (he : SimE K E0 te elt) : SimE K E (tLc wi g tt te own) (cLc it dg tst elt own) := by
  intro σ vs Hb H e fr Q w hq
  have h0 : PostE K E σ vs fr Q ((it e).bind fun ds e1 => match decide (own.Nodup ∧ ∀ v ∈ own, v < e1.s.length) with
    | true => (match lcD dg tst elt own ds (e1.wipe own) [] with
      | .ok acc e2 => .ok (.lst acc) (e2.rest e1 own)
      | _ => .bad)
    | false => .bad) := hq
  refine hi σ vs Hb H e fr _ w ?_
  cases q : it e with
  | bad => rw [q] at h0; exact h0.elim
  | exc x e1 => rw [q] at h0; exact h0
  | ok ds e1 =>
    rw [q] at h0
    intro J X Hb1 H1 hJ w1 D hD
    have h1 : PostE K E σ vs fr Q (match decide (own.Nodup ∧ ∀ v ∈ own, v < e1.s.length) with
      | true => (match lcD dg tst elt own ds (e1.wipe own) [] with
        | .ok acc e2 => .ok (.lst acc) (e2.rest e1 own)
        | _ => .bad)
      | false => .bad) := h0
    cases qd : decide (own.Nodup ∧ ∀ v ∈ own, v < e1.s.length) with
    | false => rw [qd] at h1; exact h1.elim
    | true =>
      rw [qd] at h1
      obtain ⟨hnd, hlt⟩ := of_decide_eq_true qd
      have hlt' : ∀ v ∈ own, v < σ.length := fun v hv => by rw [w1.ls]; exact hlt v hv
      have h2 : PostE K E σ vs fr Q (match lcD dg tst elt own ds (e1.wipe own) [] with
        | .ok acc e2 => .ok (.lst acc) (e2.rest e1 own)
        | _ => .bad) := h1
      have hb0 := w1.bor
      have hl0 := w1.ls
      generalize hS : saved σ e1.s own = S
      -- the frame of a turn: what is walked, what is kept aside, what lies around
      have ww := wipe_w w1 own hlt'
      rw [hS] at ww
      have hDH : Own K Hb1 (upd H1 D (.lst [])) ((some (.ref D), .lst []) :: (e1.wipe own).ents (wipe σ own) vs (S ++ (X ++ fr))) := own_lst ww.own hD .nil
      have w3 : Wld K Hb1 (upd H1 D (.lst [])) (wipe σ own) vs (e1.wipe own) ((some (.ref D), .lst []) :: (S ++ (X ++ fr))) := ww.back hDH
      refine ⟨fun i m H => m = ds.length - i ∧ i ≤ ds.length ∧ ∃ Hb e acc, Wld K Hb H (wipe σ own) vs e ((some (.ref D), .lst acc) :: (S ++ (X ++ fr))) ∧ PostE K E σ vs fr Q (match lcD dg tst elt own (ds.drop i) e acc with
        | .ok acc e2 => .ok (.lst acc) (e2.rest e1 own)
        | _ => .bad), ⟨ds.length, by simp, Nat.zero_le _, Hb1, e1.wipe own, [], w3, by simpa using h2⟩, ?_⟩
      rintro i m H2 ⟨rfl, hi2, Hb2, e2, acc, w2, p2⟩
      have pm : ((some (.ref D), M.lst acc) :: (S ++ (X ++ fr))).Perm (X ++ ((some (.ref D), M.lst acc) :: (S ++ fr))) := by
        refine List.Perm.trans ?_ List.perm_middle.symm
        refine List.Perm.cons _ ?_
        rw [← List.append_assoc, ← List.append_assoc]
        exact List.Perm.append_right _ List.perm_append_comm
      have w2' := w2.perm pm
      have o2 : Own K Hb2 H2 (X ++ (e2.ents (wipe σ own) vs ((some (.ref D), .lst acc) :: (S ++ fr)))) := w2'.own.perm (ents_app e2 _ vs X _).symm
      obtain ⟨hgo, hstop⟩ := hJ Hb2 H2 _ i o2
      by_cases hlt2 : i < ds.length
      · right
        have hd : ds[i]? = some ds[i] := List.getElem?_eq_getElem hlt2
        obtain ⟨g3, g4⟩ := hgo _ hd
        have hdrop : ds.drop i = ds[i] :: ds.drop (i + 1) := List.drop_eq_getElem_cons hlt2
        rw [hdrop, lcD_cons] at p2
        refine ⟨g3, fun H => ∃ Hb e acc, Wld K Hb H (wipe σ own) vs e ((some (.ref D), .lst acc) :: (S ++ (X ++ fr))) ∧ PostE K E σ vs fr Q (match lcD dg tst elt own (ds.drop (i + 1)) e acc with
          | .ok acc e2 => .ok (.lst acc) (e2.rest e1 own)
          | _ => .bad), fun H' hN => ⟨ds.length - (i + 1), by omega, rfl, hlt2, hN⟩, fun x H' hy => ?_⟩
        obtain ⟨Hb3, o3⟩ := g4 x H' hy
        have w0 : Wld K Hb3 H' (wipe σ own) vs e2 (X ++ ((some (.ref D), .lst acc) :: (S ++ fr))) := w2.fr1 (o3.tail.perm (ents_app e2 _ vs X _))
        have w4 : Wld K Hb3 H' (wipe σ own) vs e2 ((some x, .val ds[i]) :: (X ++ ((some (.ref D), .lst acc) :: (S ++ fr)))) := w0.back (o3.perm (List.Perm.cons _ (ents_app e2 _ vs X _)))
        cases qg : dg ds[i] e2 with
        | none => rw [qg] at p2; exact p2.elim
        | some e3 =>
          rw [qg] at p2
          refine hg _ vs Hb3 H' e2 _ x _ _ w4 ⟨e3, qg, fun σ' Hb' H'' hw w5 => ?_⟩
          rw [wipe_idem] at hw
          refine ⟨hw, ?_⟩
          have hl5 : ∀ v ∈ own, v < σ'.length := fun v hv => by
            have := congrArg List.length hw
            rw [wipe_length, wipe_length] at this
            rw [this]; exact hlt' v hv
          refine ht.run w5 (fun b e4 qt Hb5 H5 w6 => ?_) (fun x e4 qt => by dsimp only at p2; rw [qt] at p2; exact p2.elim) (fun qt => by dsimp only at p2; rw [qt] at p2; exact p2.elim)
          dsimp only at p2
          rw [qt] at p2
          cases b with
          | false =>
            refine iteF ?_
            have w7 := (w6.again (σ := σ) hl5 hw)
            exact ⟨Hb5, e4.wipe own, acc, w7.perm pm.symm, p2⟩
          | true =>
            refine iteT ?_
            dsimp only at p2
            refine he.run w6 (fun m e5 qe u Hb6 H6 w7 => ?_) (fun x e5 qe => by rw [qe] at p2; exact p2.elim) (fun qe => by rw [qe] at p2; exact p2.elim)
            rw [qe] at p2
            cases m with
            | ins C fs => exact p2.elim
            | fl z =>
              cases z with
              | val y =>
                dsimp only at p2
                cases ql : decide (acc.length < 16777216) with
                | false => rw [ql] at p2; exact p2.elim
                | true =>
                  rw [ql] at p2
                  have hz := of_decide_eq_true ql
                  obtain ⟨f, ru⟩ := w7.front.head
                  have w8 := w7.drop1.perm pm.symm
                  have o8 := w8.front
                  obtain ⟨_, a, xs, ea, _, r3, r4, r5⟩ := o8.head
                  cases ea
                  refine ⟨xs, r4, by rw [DpAll.length r5, sizeLine_eq]; exact hz, ?_⟩
                  have o9 := own_upd o8 (dpAll_append r5 (.cons ru.2 .nil))
                  have w9 : Wld K Hb6 (upd H6 D (.lst (xs ++ [u]))) σ' vs e5 ((some (.ref D), .lst (acc ++ [y])) :: (S ++ (X ++ fr))) := w8.drop1.back o9
                  exact ⟨Hb6, e5.wipe own, acc ++ [y], w9.again hl5 hw, p2⟩
              | _ => exact p2.elim
      · left
        have hnil : ds.drop i = [] := List.drop_eq_nil_of_le (by omega)
        rw [hnil] at p2
        refine ⟨hstop (by omega), p2 (.ref D) Hb2 H2 ?_⟩
        have w5 : Wld K Hb2 H2 (wipe σ own) vs e2 (saved σ e1.s own ++ ((some (.ref D), .lst acc) :: fr)) := by
          rw [hS]
          refine Wld.drop (es := X) (w2'.perm ?_)
          refine List.Perm.append_left X ?_
          exact List.perm_middle.symm
        exact rest_w hb0 hl0 own e2 hnd hlt' w5
/-- name = [..] -/
theorem ss_setLc {i : Nat} {t : TE} {d : DE} (h : SimE K E t d) : SimS K E (tAsg t (gName i)) (cSet i d) := ss_set h
/-! ### defs -/
def startS : Nat → Nat → List M → List Slot
  | _, n, [] => List.replicate n (.own .hole)
  | i, n, m :: ms => (match isCopy m with
    | true => .own m
    | false => .bor i) :: startS (i + 1) n ms
/-- a def that lets nothing out: n its parameters, k its other names -/
def def0 (n k : Nat) (body : DS) : DF := fun ms => match decide (ms.length = n) with
  | false => .bad
  | true => match body ⟨startS 0 k ms, ms⟩ with
    | .ret m e => .ok m e.a
    | .nx e => .ok (.val .none) e.a
    | _ => .bad
/-- a def that may raise -/
def defX (n k : Nat) (body : DS) : DF := fun ms => match decide (ms.length = n) with
  | false => .bad
  | true => match body ⟨startS 0 k ms, ms⟩ with
    | .ret m e => .ok m e.a
    | .nx e => .ok (.val .none) e.a
    | .exc x e => .exc x e.a
    | _ => .bad
theorem startS_length : ∀ (ms : List M) (i n : Nat), (startS i n ms).length = ms.length + n
  | [], _, n => by simp [startS]
  | m :: ms, i, n => by simp [startS, startS_length ms]; omega
theorem startS_bor : ∀ (ms : List M) (i n j k : Nat), getS (startS i n ms) j = .bor k → k = i + j ∧ j < ms.length
  | [], i, n, j, k, h => by
    exfalso
    have : ∀ n j, getS (List.replicate n (Slot.own .hole)) j = .own .hole := by
      intro n
      induction n with
      | zero => intro j; rfl
      | succ n ih => intro j; cases j with
        | zero => rfl
        | succ j => exact ih j
    rw [show startS i n [] = List.replicate n (Slot.own .hole) from rfl, this] at h
    cases h
  | m :: ms, i, n, 0, k, h => by
    have h' : (match isCopy m with
      | true => Slot.own m
      | false => .bor i) = .bor k := h
    cases q : isCopy m with
    | true => rw [q] at h'; cases h'
    | false => rw [q] at h'; cases h'; exact ⟨rfl, by simp⟩
  | m :: ms, i, n, j + 1, k, h => by
    obtain ⟨h1, h2⟩ := startS_bor ms (i + 1) n j k h
    exact ⟨by omega, by simp; omega⟩
theorem start_own {Hb H : Hp} {k : Nat} : ∀ {vs : List V} {ms : List M} (i : Nat) {fr : List Ent}, vs.length = ms.length → Own K Hb H (entsA vs ms ++ fr) → Own K Hb H (entsS (vs.map some ++ List.replicate k none) (startS i k ms) ++ (entsA vs ms ++ fr))
  | [], [], i, fr, _, o => by
    have : ∀ k, Own K Hb H (entsS (List.replicate k none) (List.replicate k (Slot.own .hole)) ++ fr) := by
      intro k
      induction k with
      | zero => exact o
      | succ k ih => exact Own.hole ih
    exact this k
  | v :: vs, m :: ms, i, fr, hl, o => by
    have o' : Own K Hb H ((some v, m) :: (entsA vs ms ++ fr)) := o
    have ih := start_own (k := k) (vs := vs) (ms := ms) (i + 1) (fr := (some v, m) :: fr) (by simpa using hl) (o'.perm (by exact List.perm_middle.symm))
    have p1 : (entsS (vs.map some ++ List.replicate k none) (startS (i + 1) k ms) ++ (entsA vs ms ++ ((some v, m) :: fr))).Perm (entsS (vs.map some ++ List.replicate k none) (startS (i + 1) k ms) ++ ((some v, m) :: (entsA vs ms ++ fr))) := List.Perm.append_left _ List.perm_middle
    have o2 := ih.perm p1
    show Own K Hb H ((some v, Slot.cont (match isCopy m with
      | true => .own m
      | false => .bor i)) :: (entsS (vs.map some ++ List.replicate k none) (startS (i + 1) k ms) ++ ((some v, m) :: (entsA vs ms ++ fr))))
    cases q : isCopy m with
    | false => exact o2.hole
    | true =>
      obtain ⟨f, r⟩ := o'.head
      refine o2.add0 (e := (some v, m)) ?_
      obtain ⟨f2, r2⟩ := o2.mem (e := (some v, m)) (by simp)
      exact rm_copy r2 q
theorem start_wld {Hb H : Hp} {N : List Str} {vs : List V} {ms : List M} {fr : List Ent} {k : Nat} (hk : N.length - vs.length = k) (hl : ms.length = vs.length) (o : Own K Hb H (entsA vs ms ++ fr)) : Wld K Hb H (L2.start N vs) vs ⟨startS 0 k ms, ms⟩ fr := by
  refine ⟨?_, hl.symm, fun i j h => ?_, ?_⟩
  · show (vs.map some ++ List.replicate (N.length - vs.length) none).length = (startS 0 k ms).length
    rw [startS_length, hk]; simp [hl]
  · obtain ⟨h1, h2⟩ := startS_bor ms 0 k i j h
    have e : j = i := by omega
    subst e
    have hi : j < vs.length := by omega
    refine ⟨vs[j], List.getElem?_eq_getElem hi, ?_⟩
    show (vs.map some ++ List.replicate (N.length - vs.length) none)[j]? = _
    rw [List.getElem?_append_left (by simpa using hi)]
    simp [hi]
  · show Own K Hb H (entsS (vs.map some ++ List.replicate (N.length - vs.length) none) (startS 0 k ms) ++ (entsA vs ms ++ fr))
    rw [hk]
    exact start_own 0 hl.symm o
theorem end_own {Hb H : Hp} {σ : L2.St} {vs : List V} {e : Env} {fr : List Ent} (w : Wld K Hb H σ vs e fr) : Own K Hb H (entsA vs e.a ++ fr) := w.own.drop1
/-- THE RULE of a def that lets nothing out -/
theorem sim_def0 {t : TS} {N : List Str} {n k : Nat} {body : DS} (h : SimS K E0 t body) (hk : N.length - n = k) {vs : List V} {H : Hp} {Q : VK} {E : XK} (hsp : SpOf K n (def0 n k body) vs H Q E) : t { nx := fun _ H' => Q .non H', rt := Q } (L2.start N vs) H := by
  obtain ⟨hn, Hb, ms, fr, hl, o, p⟩ := hsp
  subst hn
  have w := start_wld (N := N) hk hl o
  have p0 : PostF K E vs fr Q (match decide (ms.length = vs.length) with
    | false => .bad
    | true => match body ⟨startS 0 k ms, ms⟩ with
      | .ret m e => .ok m e.a
      | .nx e => .ok (.val .none) e.a
      | _ => .bad) := p
  rw [decide_eq_true hl] at p0
  refine h _ vs Hb H _ fr _ w ?_
  have p1 : PostF K E vs fr Q (match body ⟨startS 0 k ms, ms⟩ with
    | .ret m e => .ok m e.a
    | .nx e => .ok (.val .none) e.a
    | _ => .bad) := p0
  cases q : body ⟨startS 0 k ms, ms⟩ with
  | nx e => rw [q] at p1; exact fun σ Hb' H' w' => p1 .non Hb' H' w'.la.symm ((end_own w').val .non)
  | ret m e => rw [q] at p1; exact fun v σ Hb' H' w' => p1 v Hb' H' w'.la.symm ((end_own w').perm List.perm_middle)
  | exc x e => rw [q] at p1; exact p1.elim
  | brk e => rw [q] at p1; exact p1.elim
  | ct e => rw [q] at p1; exact p1.elim
  | bad => rw [q] at p1; exact p1.elim
theorem sim_defX {t : TS} {N : List Str} {n k : Nat} {body : DS} {vs : List V} {H : Hp} {Q : VK} {E : XK} (h : SimS K E t body) (hk : N.length - n = k) (hsp : SpOf K n (defX n k body) vs H Q E) : t { nx := fun _ H' => Q .non H', rt := Q } (L2.start N vs) H := by
  obtain ⟨hn, Hb, ms, fr, hl, o, p⟩ := hsp
  subst hn
  have w := start_wld (N := N) hk hl o
  have p0 : PostF K E vs fr Q (match decide (ms.length = vs.length) with
    | false => .bad
    | true => match body ⟨startS 0 k ms, ms⟩ with
      | .ret m e => .ok m e.a
      | .nx e => .ok (.val .none) e.a
      | .exc x e => .exc x e.a
      | _ => .bad) := p
  rw [decide_eq_true hl] at p0
  refine h _ vs Hb H _ fr _ w ?_
  have p1 : PostF K E vs fr Q (match body ⟨startS 0 k ms, ms⟩ with
    | .ret m e => .ok m e.a
    | .nx e => .ok (.val .none) e.a
    | .exc x e => .exc x e.a
    | _ => .bad) := p0
  cases q : body ⟨startS 0 k ms, ms⟩ with
  | nx e => rw [q] at p1; exact fun σ Hb' H' w' => p1 .non Hb' H' w'.la.symm ((end_own w').val .non)
  | ret m e => rw [q] at p1; exact fun v σ Hb' H' w' => p1 v Hb' H' w'.la.symm ((end_own w').perm List.perm_middle)
  | exc x e => rw [q] at p1; exact fun c d σ Hb' H' w' hx => p1 c d Hb' H' w'.la.symm (end_own w') hx
  | brk e => rw [q] at p1; exact p1.elim
  | ct e => rw [q] at p1; exact p1.elim
  | bad => rw [q] at p1; exact p1.elim
end
end Sm

/-! Sim9: rules whatever the kind; dicts. -/
namespace Sm
open PySem PySem.Spec PyProof.Rows L2
section
variable {K : PySem.W.Frag} {E : XK}
def orM (f g : List M → Option M) : List M → Option M := fun ms => match f ms with
  | some m => some m
  | none => g ms
theorem orM_inv {f g : List M → Option M} {ms : List M} {m : M} (h : orM f g ms = some m) : f ms = some m ∨ g ms = some m := by
  unfold orM at h
  split at h
  · rename_i q; cases h; exact .inl q
  · exact .inr h
def orR (r s : R2) : R2 := fun x y H Q => r x y H Q ∨ s x y H Q
theorem op_or {X : Cx} {f : Value → Value → Sem Value} {r s : R2} (h1 : OpR X f r) (h2 : OpR X f s) : OpR X f (orR r s) := by
  intro pins st σ H x y v u Q I rx ry h
  rcases h with h | h
  · exact h1 pins st σ H x y v u Q I rx ry h
  · exact h2 pins st σ H x y v u Q I rx ry h
theorem p_or {r s : R2} {f g : List M → Option M} (h1 : Prim K (r2L r) f) (h2 : Prim K (r2L s) g) : Prim K (r2L (orR r s)) (orM f g) := by
  intro us ms m Hb H es Q hg o rp k
  rcases orM_inv hg with z | z
  · have := h1 us ms m Hb H es Q z o rp k
    match us, this with
    | [x, y], h => exact .inl h
  · have := h2 us ms m Hb H es Q z o rp k
    match us, this with
    | [x, y], h => exact .inr h
abbrev rAddU (K : PySem.W.Frag) : R2 := orR (rI0 fun i j => .int (i + j)) (orR (rCatN K) (orR (rCatU K) rCatS))
def gAdd : List M → Option M := orM (gI fun i j => i + j) (orM gCatT (orM gCatL gCatS))
theorem op_addU {X : Cx} : OpR X (binaryOp .Add) (rAddU X.K) := op_or op_add (op_or op_catN (op_or op_catU op_add_str))
theorem p_addU : Prim K (r2L (rAddU K)) gAdd := p_or p_I0 (p_or p_catT (p_or p_catL p_catS))
def gRepT : List M → Option M
  | [.fl (.val (.tuple ds)), .fl (.val (.int k))] => if ds ≠ [] ∧ 2 ≤ k ∧ k.natAbs ≤ 1000 ∧ ds.length ≤ 1000 then some (.val (.tuple (List.replicate k.toNat ds).flatten)) else none
  | _ => none
theorem p_repT : Prim K (r2L (rRepN K)) gRepT := by
  intro us ms m Hb H es Q hg o rp k
  unfold gRepT at hg
  split at hg
  · rename_i ds j
    split at hg
    · rename_i hz
      cases hg
      obtain ⟨u, v, f1, g1, rfl, r1, r2⟩ := reps2 rp
      obtain ⟨a, xs, rfl, h1, h2⟩ := dp_tup r1.2
      cases dp_int r2.2
      refine ⟨a, j, xs, rfl, rfl, (h1.same o.1).sq, fun z => hz.1 ?_, hz.2.1, (by have := hz.2.1; have := hz.2.2.1; omega), by rw [DpAll.length h2]; exact hz.2.2.2, fun p ob hbp hp => k _ _ _ (own_tup o hbp hp (dpAll_rep h2 _))⟩
      subst z; cases h2; rfl
    · cases hg
  · cases hg
abbrev rMulU (K : PySem.W.Frag) : R2 := orR (rI CMul fun i j => .int (i * j)) (orR rRep (rRepN K))
def gMul : List M → Option M := orM (gII okMul fun i j => .int (i * j)) (orM gRepL gRepT)
theorem op_mulU {X : Cx} : OpR X (binaryOp .Mult) (rMulU X.K) := op_or op_mul (op_or op_rep op_repN)
theorem p_mulU : Prim K (r2L (rMulU K)) gMul := p_or p_mul (p_or p_repL p_repT)
/-! slices -/
def gSlS (lo hi : Option Int) : List M → Option M
  | [.fl (.val (.str z))] => if z.length ≤ 16777216 then some (.val (.str (cutS z lo hi))) else none
  | _ => none
theorem p_slS : SlSim K rSlS gSlS := by
  intro lo hi us ms m Hb H es Q hg o rp k
  unfold gSlS at hg
  split at hg
  · rename_i z
    split at hg
    · rename_i hz
      cases hg
      obtain ⟨u, f, rfl, r⟩ := reps1 rp
      cases dp_str r.2
      exact ⟨z, rfl, line_big hz, k _ Hb H (o.val (.str _))⟩
    · cases hg
  · cases hg
def orSl (r s : V → Option Int → Option Int → Hp → VK → Prop) : V → Option Int → Option Int → Hp → VK → Prop := fun x a b H Q => r x a b H Q ∨ s x a b H Q
theorem sl_or {X : Cx} {r s : V → Option Int → Option Int → Hp → VK → Prop} (h1 : SlR X r) (h2 : SlR X s) : SlR X (orSl r s) := by
  intro pins st σ H x v vl vu lo hi sl Q I rx hs pl pu h
  rcases h with h | h
  · exact h1 pins st σ H x v vl vu lo hi sl Q I rx hs pl pu h
  · exact h2 pins st σ H x v vl vu lo hi sl Q I rx hs pl pu h
theorem psl_or {r s : V → Option Int → Option Int → Hp → VK → Prop} {f g : Option Int → Option Int → List M → Option M} (h1 : SlSim K r f) (h2 : SlSim K s g) : SlSim K (orSl r s) (fun a b => orM (f a b) (g a b)) := by
  intro lo hi us ms m Hb H es Q hg o rp k
  rcases orM_inv hg with z | z
  · have := h1 lo hi us ms m Hb H es Q z o rp k
    match us, this with
    | [x], h => exact .inl h
  · have := h2 lo hi us ms m Hb H es Q z o rp k
    match us, this with
    | [x], h => exact .inr h
abbrev rSlU (K : PySem.W.Frag) : V → Option Int → Option Int → Hp → VK → Prop := orSl (rSlN K) (orSl (rSlL K) rSlS)
def gSl (a b : Option Int) : List M → Option M := orM (gSlT a b) (orM (gSlL a b) (gSlS a b))
theorem sl_U {X : Cx} : SlR X (rSlU X.K) := sl_or sl_tupN (sl_or sl_list sl_str)
theorem p_slU : SlSim K (rSlU K) gSl := psl_or p_slA (psl_or p_slL p_slS)
/-! in -/
def rInSg (neg : Bool) : R2 := fun x y H Q => ∃ (c : Nat) (z : Str), x = .str ⟨#[c]⟩ ∧ y = .str z ∧ Q (.bl (if neg then !decide (c ∈ z.cps.toList) else decide (c ∈ z.cps.toList))) H
theorem op_inSg {X : Cx} : OpR X (compareOp .In) (rInSg false) := fun pins st σ H x y v u Q I rx ry ⟨c, z, h1, h2, q⟩ => op_in_sign pins st σ H x y v u Q I rx ry ⟨c, z, h1, h2, q⟩
theorem op_notInSg {X : Cx} : OpR X (compareOp .NotIn) (rInSg true) := fun pins st σ H x y v u Q I rx ry ⟨c, z, h1, h2, q⟩ => op_notIn_sign pins st σ H x y v u Q I rx ry ⟨c, z, h1, h2, q⟩
def gInSg (neg : Bool) : List M → Option M
  | [.fl (.val (.str ⟨⟨[c]⟩⟩)), .fl (.val (.str z))] => some (.val (.bool (neg ^^ decide (c ∈ z.cps.toList))))
  | _ => none
theorem p_inSg {neg : Bool} : Prim K (r2L (rInSg neg)) (gInSg neg) := by
  intro us ms m Hb H es Q hg o rp k
  unfold gInSg at hg
  split at hg
  · rename_i c z
    cases hg
    obtain ⟨u, v, f1, g1, rfl, r1, r2⟩ := reps2 rp
    cases dp_str r1.2
    cases dp_str r2.2
    refine ⟨c, z, rfl, rfl, ?_⟩
    have := k (.bl (neg ^^ decide (c ∈ z.cps.toList))) Hb H (o.val (.bl _))
    cases neg
    · simpa using this
    · simpa using this
  · cases hg
abbrev rInU (K : PySem.W.Frag) : R2 := orR (rIn K false) (rInSg false)
abbrev rNotInU (K : PySem.W.Frag) : R2 := orR (rIn K true) (rInSg true)
def gInU (neg : Bool) : List M → Option M := orM (gIn neg) (gInSg neg)
theorem op_inU {X : Cx} : OpR X (compareOp .In) (rInU X.K) := op_or op_in_seq op_inSg
theorem op_notInU {X : Cx} : OpR X (compareOp .NotIn) (rNotInU X.K) := op_or op_notIn_seq op_notInSg
theorem p_inU : Prim K (r2L (rInU K)) (gInU false) := p_or p_in p_inSg
theorem p_notInU : Prim K (r2L (rNotInU K)) (gInU true) := p_or p_in p_inSg
/-! ### walked, whatever it is -/
def iSeqU (K : PySem.W.Frag) (tl : TE) : TI := fun σ H R => tl σ H fun x H1 => (∃ a, x = .ref a ∧ (∃ xs, SqL K H1 a xs) ∧ R (Itl K a) H1) ∨ (∃ a, x = .ref a ∧ (∃ xs, SqT K H1 a xs) ∧ R (Itt K a) H1) ∨ ∃ y, x = .str y ∧ R (Its y) H1
theorem pi_seqU {X : Cx} {tg l : Expr} {tl : TE} (hl : PE X l tl) : PI X tg l (iSeqU X.K tl) := by
  refine ⟨fun pins s σ H R I h => ?_⟩
  have hh := hl.run pins s σ H _ I h
  refine wpAny_mono hh (fun v s1 ⟨x, H1, I1, r1, q1⟩ => ?_) fun _ _ z => z
  rcases q1 with ⟨a, e, ⟨xs, hq⟩, q⟩ | ⟨a, e, ⟨xs, hq⟩, q⟩ | ⟨y, ex, q⟩
  · subst e
    cases r1
    obtain ⟨its, rv, p, hz⟩ := I1.list hq
    refine wpAny_pyIter_list p.isList ?_
    exact pi_one (tk := s1.toks) I1 _ (turn_list a _) ⟨_, Heap.get?_push_size _ rfl, rfl, rfl⟩ q
  · subst e
    cases r1
    obtain ⟨its, rv, p, hz⟩ := I1.tuple hq
    refine wpAny_pyIter_tuple (show s1.heap.IsTuple a its.toArray from p) ?_
    exact pi_one (tk := s1.toks) I1 _ (turn_tuple a _) ⟨_, Heap.get?_push_size _ rfl, rfl, rfl⟩ q
  · subst ex
    obtain ⟨t, rfl⟩ := r1
    cases ha : y.cps.all (· < 128)
    · exact wpAny_pyIter_wide ha (pi_one (tk := s1.toks) I1 _ (turn_str _ y t "str_iterator" (.inr rfl)) ⟨_, Heap.get?_push_size _ rfl, rfl, rfl⟩ q)
    · exact wpAny_pyIter_ascii ha (pi_one (tk := s1.toks) I1 _ (turn_str _ y t "str_ascii_iterator" (.inl rfl)) ⟨_, Heap.get?_push_size _ rfl, rfl, rfl⟩ q)
def signsD (y : Str) : List PyData := y.cps.toList.map fun c => .str ⟨#[c]⟩
theorem walks_str {y : Str} : Walks K (Its y) (signsD y) [(some (.str y), .val (.str y))] := by
  intro Hb H es i o
  have hl : (signsD y).length = y.cps.size := by unfold signsD; simp
  refine ⟨fun d hd => ?_, fun hz => by rw [hl] at hz; exact hz⟩
  have hi : i < y.cps.size := by rw [← hl]; exact (List.getElem?_eq_some_iff.mp hd).1
  refine ⟨hi, fun x H' hx => ?_⟩
  obtain ⟨rfl, c, hc, rfl⟩ := hx
  have : d = .str ⟨#[c]⟩ := by
    unfold signsD at hd
    rw [List.getElem?_map] at hd
    have e : y.cps.toList[i]? = some c := by rw [Array.getElem?_toList]; exact hc
    rw [e] at hd
    exact (Option.some.inj hd).symm
  subst this
  exact ⟨Hb, o.val (.str _)⟩
/-- the items of a tuple, a list, a text -/
def itemsM : M → Option (List PyData)
  | .fl (.val (.str y)) => some (signsD y)
  | m => seqOf m
theorem seqOf_cases {m : M} {ds : List PyData} (h : seqOf m = some ds) : m = .val (.tuple ds) ∨ lstOf m = some ds := by
  unfold seqOf at h
  split at h
  · cases h; exact .inl rfl
  · cases h; exact .inr rfl
  · cases h; exact .inr rfl
  · cases h
theorem itemsM_cases {m : M} {ds : List PyData} (h : itemsM m = some ds) : (∃ y, m = .val (.str y) ∧ ds = signsD y) ∨ seqOf m = some ds := by
  unfold itemsM at h
  split at h
  · cases h; exact .inl ⟨_, rfl, rfl⟩
  · exact .inr h
theorem si_seqU {t : TE} {d : DE} (h : SimE K E t d) : SimI K E (iSeqU K t) (iSeq itemsM d) := by
  refine si_run (C := fun x H1 R => (∃ a, x = .ref a ∧ (∃ xs, SqL K H1 a xs) ∧ R (Itl K a) H1) ∨ (∃ a, x = .ref a ∧ (∃ xs, SqT K H1 a xs) ∧ R (Itt K a) H1) ∨ ∃ y, x = .str y ∧ R (Its y) H1) h fun Hb H v m ds f R hg s r k => ?_
  rcases itemsM_cases hg with ⟨y, rfl, rfl⟩ | hg
  · cases dp_str r.2
    exact .inr (.inr ⟨y, rfl, k _ walks_str⟩)
  · rcases seqOf_cases hg with rfl | hl
    · obtain ⟨a, xs, rfl, h1, h2⟩ := dp_tup r.2
      exact .inr (.inl ⟨a, rfl, ⟨xs, (h1.same s).sq⟩, k _ walks_tup⟩)
    · obtain ⟨a, xs, rfl, h1, h2⟩ := lst_dp s r hl
      exact .inl ⟨a, rfl, ⟨xs, h1⟩, k _ (walks_lst hl)⟩
def iEnumU (K : PySem.W.Frag) (ta : TA) : TI := fun σ H R => ta σ H fun vs H1 => (∃ a xs, vs = [.ref a] ∧ SqL K H1 a xs ∧ R (IteN K a) H1) ∨ ∃ a xs, vs = [.ref a] ∧ SqT K H1 a xs ∧ R (IteT K a) H1
theorem pi_enumU {X : Cx} {e : Expr} {ta : TA} {p pos tpos : Pos} {elts : List Expr} {kk : Nat} (hg : Gl X "enumerate") (hm : X.mg "enumerate" = none) (ha : PA X [e] ta) (hs : starEach [e] X.env = [(false, eval e X.env)] := by rfl) :
    PI X (.Tuple elts kk tpos) (.Call (.Name "enumerate" p) [e] [] pos) (iEnumU X.K ta) := by
  refine ⟨fun pins s σ H R I h => ?_⟩
  refine Call_ (ld_blt I hg hm boot_enumerate (PyProof.Rows.callWith_type1 (thn (ha.run pos pins s σ H _ I h) fun us s1 ⟨vs, H1, I1, r1, q1⟩ => ?_) hs rfl))
  rcases q1 with ⟨a, xs, ex, hq, q⟩ | ⟨a, xs, ex, hq, q⟩
  · subst ex
    cases r1 with
    | cons r rr =>
      cases rr
      cases r
      obtain ⟨its, rv, p', hz⟩ := I1.list hq
      refine call_enumerate_list p'.isList fun h' he hit hsz hk => wpAny_pyIter_enum he ?_
      have I2 : Inv X pins σ H1 { s1 with heap := h' } := I1.kept (t' := s1.toks) hk
      refine ⟨s1.heap.objs.size + 1, [s1.heap.objs.size + 1, s1.heap.objs.size], _, _, H1, rfl, I2, turn_enumN a (s1.heap.objs.size + 1) s1.heap.objs.size, ⟨⟨.none, he⟩, hit, Nat.succ_ne_self _⟩, fun b hb => ?_, q⟩
      have e' : b = s1.heap.objs.size + 1 ∨ b = s1.heap.objs.size := by simpa using hb
      have hle : s1.heap.objs.size ≤ b := by
        rcases e' with z | z
        · rw [z]; exact Nat.le_add_right _ _
        · rw [z]; exact Nat.le_refl _
      exact I1.fpOk hle (I1.hok.fresh hle)
  · subst ex
    cases r1 with
    | cons r rr =>
      cases rr
      cases r
      obtain ⟨its, rv, p', hz⟩ := I1.tuple hq
      have hal : a < s1.heap.objs.size := p'.lt
      refine call_enum1 (begins_tuple a its.toArray) (show s1.heap.IsTuple a its.toArray from p') fun h' he hit hsz hk => wpAny_pyIter_enum he ?_
      have I2 : Inv X pins σ H1 { s1 with heap := h' } := I1.kept (t' := s1.toks) hk
      refine ⟨s1.heap.objs.size + 1, [s1.heap.objs.size + 1, s1.heap.objs.size], _, _, H1, rfl, I2, turn_enumT a (s1.heap.objs.size + 1) s1.heap.objs.size, ⟨⟨.none, he⟩, ⟨_, hit, rfl, rfl⟩, Nat.succ_ne_self _, Nat.ne_of_lt hal, Nat.ne_of_lt (Nat.lt_succ_of_lt hal)⟩, fun b hb => ?_, q⟩
      have e' : b = s1.heap.objs.size + 1 ∨ b = s1.heap.objs.size := by simpa using hb
      have hle : s1.heap.objs.size ≤ b := by
        rcases e' with z | z
        · rw [z]; exact Nat.le_add_right _ _
        · rw [z]; exact Nat.le_refl _
      exact I1.fpOk hle (I1.hok.fresh hle)
theorem si_enumU {t : TE} {d : DE} (h : SimE K E t d) : SimI K E (iEnumU K (tCons t tNil)) (iSeq (fun m => (seqOf m).map (enumD 0)) d) := by
  refine si_run (C := fun x H1 R => (∃ a xs, [x] = [V.ref a] ∧ SqL K H1 a xs ∧ R (IteN K a) H1) ∨ ∃ a xs, [x] = [V.ref a] ∧ SqT K H1 a xs ∧ R (IteT K a) H1) h fun Hb H v m ds f R hg s r k => ?_
  cases q : seqOf m with
  | none => rw [q] at hg; cases hg
  | some es =>
    rw [q] at hg; cases hg
    rcases seqOf_cases q with rfl | hl
    · obtain ⟨a, xs, rfl, h1, h2⟩ := dp_tup r.2
      exact .inr ⟨a, xs, rfl, (h1.same s).sq, k _ walks_enumT⟩
    · obtain ⟨a, xs, rfl, h1, h2⟩ := lst_dp s r hl
      exact .inl ⟨a, xs, rfl, h1, k _ (walks_enumL hl)⟩
/-! ### xs[i] = e -/
def ixOk (ds : List PyData) (m : M) : Option Nat := match asI m with
  | some k => ixN ds.length k
  | none => none
def setM : M → M → M → Option M
  | .fl (.lst ds), .fl (.val y), n => match ixOk ds n with
    | some j => some (.lst (ds.set j y))
    | none => none
  | _, _, _ => none
theorem setM_inv {a m n z : M} (h : setM a m n = some z) : ∃ ds y k j, a = .lst ds ∧ m = .val y ∧ n = .val (.int k) ∧ ixN ds.length k = some j ∧ z = .lst (ds.set j y) := by
  unfold setM at h
  split at h
  · rename_i ds y
    split at h
    · rename_i j q
      cases h
      unfold ixOk at q
      cases qi : asI n with
      | none => rw [qi] at q; cases q
      | some k => rw [qi] at q; exact ⟨ds, y, k, j, rfl, rfl, asI_inv qi, q, rfl⟩
    · cases h
  · cases h
/-- the value, then the list (a name), then the place -/
def cSetIx (i : Nat) (d k : DE) : DS := fun e => (d e).toS fun m e1 => match isLst (e1.get i) with
  | false => .bad
  | true => (k e1).toS fun n e2 => match setM (e2.get i) m n with
    | some z => .nx (e2.put i z)
    | none => .bad
theorem ss_setIx {i : Nat} {te ti : TE} {d k : DE} (h1 : SimE K E te d) (h2 : SimE K E ti k) : SimS K E (tAsg te (gSub (tVar i) ti rSetL)) (cSetIx i d k) := by
  intro σ vs Hb H e fr D w hq
  refine toS_run (k := fun m e1 => match isLst (e1.get i) with
    | false => .bad
    | true => (k e1).toS fun n e2 => match setM (e2.get i) m n with
      | some z => .nx (e2.put i z)
      | none => .bad) h1 w hq fun m e1 v Hb1 H1 w1 p => ?_
  cases ql : isLst (e1.get i) with
  | false => rw [ql] at p; exact p.elim
  | true =>
    rw [ql] at p
    obtain ⟨u, hu, _⟩ := w1.slot (isLst_hole ql)
    refine ⟨u, hu, ?_⟩
    have p' : PostS K E vs fr D ((k e1).toS fun n e2 => match setM (e2.get i) m n with
      | some z => .nx (e2.put i z)
      | none => .bad) := p
    refine h2.run w1 (fun n e2 q2 z Hb2 H2 w2 => ?_) (fun x e2 q c dd Hb2 H2 w2 hx => ?_) fun q => ?_
    · rw [q2] at p'
      have p3 : PostS K E vs fr D (match setM (e2.get i) m n with
        | some z => .nx (e2.put i z)
        | none => .bad) := p'
      cases qs : setM (e2.get i) m n with
      | none => rw [qs] at p3; exact p3.elim
      | some zz =>
        rw [qs] at p3
        obtain ⟨ds, y, kk, j, qg, rfl, rfl, qj, rfl⟩ := setM_inv qs
        obtain ⟨g, rz⟩ := w2.front.head
        cases dp_int rz.2
        have w3 : Wld K Hb2 H2 σ vs e2 ((some v, .val y) :: fr) := w2.drop1
        have hh : (e2.get i).isHole = false := by rw [qg]; rfl
        obtain ⟨u', hu', w4⟩ := w3.take hh
        rw [hu] at hu'
        have : u = u' := Option.some.inj (Option.some.inj hu')
        subst this
        rw [qg] at w4
        have o := w4.front
        obtain ⟨_, a, xs, rfl, _, r3, r4, r5⟩ := o.head
        obtain ⟨_, rv⟩ := w3.front.head
        refine ⟨a, xs, kk, j, rfl, rfl, r4, by rw [DpAll.length r5]; exact qj, p3 σ Hb2 _ ?_⟩
        have o2 := own_upd o (dpAll_set rv.2 j r5)
        have w5 : Wld K Hb2 (upd H2 a (.lst (xs.set j v))) σ vs (e2.put i .hole) ((some (.ref a), .lst (ds.set j y)) :: (some v, .val y) :: fr) := w4.drop1.back o2
        have w6 := w5.drop2.put (i := i) hu
        rw [put_put hh] at w6
        exact w6
    · rw [q] at p'; exact p' c dd σ Hb2 H2 w2.drop1 hx
    · rw [q] at p'; exact p'
end
end Sm

/-! SimR: what a called def is to its callers. -/
namespace Sm
open PySem PySem.Spec PyProof.Rows L2
structure Cal (P : Program) (w : World) (K : PySem.W.Frag) (mg : Str → Option Value) (base : Heap) (CX : CXT) (k : Nat) (x : Str) (ps : List Str) (sp : Sp) : Prop where
  ex : ∃ f fd, FnOk P w K mg base CX k f fd ps sp ∧ mg x = some (.ref f) ∧ PySem.W.keepIn K (.ref f) = true ∧ Binds K fd ps []
structure CalM (P : Program) (w : World) (K : PySem.W.Frag) (mg : Str → Option Value) (base : Heap) (CX : CXT) (k : Nat) (C : Addr) (x : Str) (ps : List Str) (sp : Sp) : Prop where
  ex : ∃ f fd, FnOk P w K mg base CX k f fd ps sp ∧ Meth K C x f ∧ Binds K fd ps []
structure CalI (P : Program) (w : World) (K : PySem.W.Frag) (mg : Str → Option Value) (base : Heap) (CX : CXT) (k : Nat) (x : Str) (C : Addr) (ps : List Str) (sp : Sp) : Prop where
  ex : ∃ f fd, FnOk P w K mg base CX k f fd ps sp ∧ Mk K C f ∧ mg x = some (.ref C) ∧ Binds K fd ps []
abbrev DefOf (K : PySem.W.Frag) (mg : Str → Option Value) (x : Str) (st : Stmt) : Prop := ∃ f fd, mg x = some (.ref f) ∧ FunD K x x (defArgs st) (defBody st) (defScope st) [] [] f fd
abbrev MethOf (K : PySem.W.Frag) (C : Addr) (x q : Str) (st : Stmt) : Prop := ∃ f fd, Meth K C x f ∧ FunD K x q (defArgs st) (defBody st) (defScope st) [] [] f fd
abbrev InitOf (K : PySem.W.Frag) (mg : Str → Option Value) (c : Str) (C : Addr) (q : Str) (st : Stmt) : Prop := ∃ f fd, Mk K C f ∧ mg c = some (.ref C) ∧ FunD K "__init__" q (defArgs st) (defBody st) (defScope st) [] [] f fd
end Sm

/-! SimK: the rules of HandS whose readings name the written part, with the part told apart (for blocks of comprehensions). -/
namespace Sm
open PySem PySem.Spec PyProof.Rows L2
section
variable {X : Cx} {K : PySem.W.Frag}
theorem op_addK (hK : X.K = K := by rfl) : OpR X (binaryOp .Add) (rAddU K) := by subst hK; exact op_addU
theorem op_mulK (hK : X.K = K := by rfl) : OpR X (binaryOp .Mult) (rMulU K) := by subst hK; exact op_mulU
theorem op_inK (hK : X.K = K := by rfl) : OpR X (compareOp .In) (rInU K) := by subst hK; exact op_inU
theorem op_notInK (hK : X.K = K := by rfl) : OpR X (compareOp .NotIn) (rNotInU K) := by subst hK; exact op_notInU
theorem op_eqK (hu : X.A.units + 64 < cLine) (hK : X.K = K := by rfl) : OpR X (compareOp .Eq) (rEqU K) := by subst hK; exact op_eqU hu
theorem op_neK (hu : X.A.units + 64 < cLine) (hK : X.K = K := by rfl) : OpR X (compareOp .NotEq) (rNeU K) := by subst hK; exact op_neU hu
theorem ix_K (hK : X.K = K := by rfl) : IxR X (rIx K) := by subst hK; exact ix_seq
theorem sl_K (hK : X.K = K := by rfl) : SlR X (rSlU K) := by subst hK; exact sl_U
theorem call_lenK (hK : X.K = K := by rfl) : CallR X (.builtin "len") (rLenU K) := by subst hK; exact call_len
theorem call_sumK (hc : X.calm = true) (hK : X.K = K := by rfl) : CallR X (.builtin "sum") (rSum K) := by subst hK; exact cr_sum hc
theorem call_maxK (hc : X.calm = true) (hK : X.K = K := by rfl) : CallR X (.builtin "max") (rMax K) := by subst hK; exact cr_max hc
theorem call_minK (hc : X.calm = true) (hK : X.K = K := by rfl) : CallR X (.builtin "min") (rMin K) := by subst hK; exact cr_min hc
theorem call_allK (hc : X.calm = true) (hK : X.K = K := by rfl) : CallR X (.builtin "all") (rAll K) := by subst hK; exact cr_all hc
theorem call_listK (hK : X.K = K := by rfl) : CallR X (.type "list") (rListU K) := by subst hK; exact call_list_of
theorem call_tupleK (hK : X.K = K := by rfl) : CallR X (.type "tuple") (rTupleU K) := by subst hK; exact call_tupleN
theorem call_isiK (hK : X.K = K := by rfl) : CallR X (.builtin "isinstance") (rIsi K) := by subst hK; exact call_isi
theorem pi_seqK {tg l : Expr} {tl : TE} (hl : PE X l tl) (hK : X.K = K := by rfl) : PI X tg l (iSeqU K tl) := by subst hK; exact pi_seqU hl
theorem pi_enumK {e : Expr} {ta : TA} {p pos tpos : Pos} {elts : List Expr} {kk : Nat} (hg : Gl X "enumerate") (hm : X.mg "enumerate" = none) (ha : PA X [e] ta) (hs : starEach [e] X.env = [(false, eval e X.env)] := by rfl) (hK : X.K = K := by rfl) :
    PI X (.Tuple elts kk tpos) (.Call (.Name "enumerate" p) [e] [] pos) (iEnumU K ta) := by subst hK; exact pi_enumU hg hm ha hs
theorem pg_tupK {es : List Expr} {k : Nat} {t : TGs} {n : Nat} {pos : Pos} (hc : X.calm = true) (h : PGs X es t)
    (hn : (assignEach es X.env).length = n := by rfl) (hst : (assignEach es X.env).findIdx? (·.1) = none := by rfl) (hK : X.K = K := by rfl) : PG X (.Tuple es k pos) (gTup K n t) := by subst hK; exact pg_tup hc h hn hst
theorem pe_fldK {e : Expr} {f : Str} {pos : Pos} {ta : TE} (he : PE X e ta) (hb : attributeBase e f X.env (eval e X.env) = eval e X.env) (hK : X.K = K := by rfl) : PE X (.Attribute e f pos) (tFld K ta f) := by subst hK; exact pe_fld he hb
theorem pe_orTK {a b : Expr} {rest : List Expr} {pos : Pos} {ta tb : TE} (ha : PE X a ta) (hb : PE X (.BoolOp .Or (b :: rest) pos) tb) (hK : X.K = K := by rfl) : PE X (.BoolOp .Or (a :: b :: rest) pos) (tOrT K ta tb) := by subst hK; exact pe_orT ha hb
theorem pe_bmK {T : String} {id : String} {name : Str} {r : V → List V → Hp → VK → Prop} {o e : Expr} {es : List Expr} {to : TE} {t : TA} {apos cpos : Pos} (pa : PlainAttrs T) (slot : PySem.Slot T name id) (hty : typeOf (.builtin id) = pure (.type "method_descriptor")) (hm : MtR X id r) (ho : PE X o to) (ha : PA X (e :: es) t)
    (hbase : attributeBase o name X.env (eval o X.env) = eval o X.env := by rfl)
    (hfew : ((backTo cpos (starEach (e :: es) X.env)).all (fun x => !x.1) && (backToKw cpos (keywordEach [] X.env)).all (fun x => x.1.isSome)
      && decide ((e :: es).length + ([] : List Keyword).length + (if ([] : List Keyword).isEmpty then 0 else 1) < 30)) = true := by rfl)
    (hline : (apos.endLine == cpos.line) = true := by rfl) (hs : starEach (e :: es) X.env = (false, eval e X.env) :: starEach es X.env := by rfl) (hplain : (backTo cpos (starEach es X.env)).any (·.1) = false := by rfl) (hK : X.K = K := by rfl) :
    PE X (.Call (.Attribute o name apos) (e :: es) [] cpos) (tBM K T r to t) := by subst hK; exact pe_bm pa slot hty hm ho ha hbase hfew hline hs hplain
end
end Sm

/-! RevT: x[::-1] of tuples and lists, the step any expression of the value -1. -/
namespace Sm
open PySem PySem.Spec PyProof.Rows L2
section
variable {prog : Program} {w : World} {A : Around} {E : Value → Shared → Prop} {s : Shared}
theorem rev_adjust (n : Nat) : Builtin.Slice.sliceAdjust none none (-1) (n : Int) = ((n : Int) - 1, -1) := by
  unfold Builtin.Slice.sliceAdjust
  first
    | rfl
    | (simp; done)
    | (simp <;> omega)
theorem rev_places (n : Nat) : Builtin.Slice.slicePlaces ((n : Int) - 1) (-1) (-1) = n := by
  unfold Builtin.Slice.slicePlaces
  first
    | rfl
    | (simp; done)
    | (simp <;> omega)
    | (split <;> omega)
theorem rev_pick {α : Type} (xs : Array α) : ((List.range xs.size).filterMap fun (k : Nat) => xs[(((xs.size : Int) - 1) + (k : Int) * (-1)).toNat]?) = xs.toList.reverse := by
  apply List.ext_getElem?
  intro i
  have e : (fun (k : Nat) => xs[(((xs.size : Int) - 1) + (k : Int) * (-1)).toNat]?) = fun (k : Nat) => xs[xs.size - 1 - k]? := by
    funext k
    have : (((xs.size : Int) - 1) + (k : Int) * (-1)).toNat = xs.size - 1 - k := by omega
    rw [this]
  rw [e]
  have : ∀ n, n ≤ xs.size → (List.range n).filterMap (fun (k : Nat) => xs[xs.size - 1 - k]?) = (xs.toList.reverse).take n := by
    intro n
    induction n with
    | zero => intro _; simp
    | succ n ih =>
      intro hn
      rw [List.range_succ, List.filterMap_append, ih (by omega), List.take_add_one]
      congr 1
      have h1 : xs.size - 1 - n < xs.size := by omega
      have h2 : n < xs.toList.length := by rw [Array.length_toList]; omega
      rw [List.getElem?_reverse h2]
      simp [Array.getElem?_eq_getElem h1]
  rw [this xs.size (Nat.le_refl _), List.take_of_length_le (by simp)]
theorem sliceApplied_rev {sl : Addr} {vs : Value} {n : Nat} {Q : Int × Int × Nat → Shared → Prop} (hs : s.heap.IsSliceOf sl .none .none vs) (ps : IsPart vs (some (-1)))
    (h : Q ((n : Int) - 1, -1, n) s) : wpAny (model prog w) A (Builtin.Slice.sliceApplied (.ref sl) (pure (n : Int))) Q E s := by
  obtain ⟨os, hos, hcs, hds⟩ := id hs
  unfold Builtin.Slice.sliceApplied Builtin.Slice.sliceFields
  refine wpAny_bind (wpAny_bind (wpAny_field hos hds (x := .none) rfl (wpAny_bind (wpAny_field hos hds (x := .none) rfl (wpAny_bind (wpAny_field hos hds (x := vs) rfl (wpAny_pure ?_)))))))
  refine wpAny_bind (HT.slicePart_ ps ?_)
  show wpAny _ _ (if ((-1 : Int) == 0) = true then _ else _) _ _ s
  rw [if_neg (by decide)]
  refine wpAny_bind (HT.slicePart_ IsPart.none (wpAny_bind (HT.slicePart_ IsPart.none (wpAny_bind (wpAny_pure ?_)))))
  show wpAny _ _ (match Builtin.Slice.sliceAdjust none none (-1) (n : Int) with | (lo, hi) => pure (lo, (-1 : Int), Builtin.Slice.slicePlaces lo hi (-1))) _ _ s
  rw [rev_adjust n]
  show wpAny _ _ (pure ((n : Int) - 1, (-1 : Int), Builtin.Slice.slicePlaces ((n : Int) - 1) (-1) (-1))) _ _ s
  rw [rev_places]
  exact wpAny_pure h

theorem getItem_tuple_rev {t sl : Addr} {items : Array Value} {vs : Value} {Q : Value → Shared → Prop} (ht : IsTup s.heap t items) (hs : s.heap.IsSliceOf sl .none .none vs) (ps : IsPart vs (some (-1)))
    (h : Q (.ref s.heap.objs.size) { s with heap := s.heap.push { cls := .type "tuple", data := .seq items.toList.reverse.toArray } })
    (hsz : items.size ≤ sizeLine) : wpAny (model prog w) A (getItem (.ref t) (.ref sl)) Q E s := by
  have htake : sizeOk (.seq items.toList.reverse.toArray) := by
    show items.toList.reverse.toArray.size ≤ sizeLine
    simpa using hsz
  obtain ⟨os, hos, hcs, hds⟩ := id hs
  have hTs : s.TypeIs (.ref sl) "slice" := ⟨os, hos, hcs⟩
  unfold getItem
  try with_reducible refine wpAny_holding ?_
  first | refine wpAny_bind (wpAny_pure ?_) | skip
  refine wpAny_bind (wpAny_sequenceKey ht.typeIs (by decide) ?_)
  refine wpAny_bind (wpAny_callSpecial?_slot (name := Str.ofString "__getitem__") ht.typeIs PyProof.Rows.slot_tuple_getitem
    (wpAny_call_entry PyProof.Rows.slot_tuple_getitem ht.typeIs entry_tuple_getitem ?_ (args_tuple_getitem _ _)))
  show wpAny _ _ (Builtin.Tuple.tupleItemsOf (.ref t) >>= _) _ _ s
  refine wpAny_bind (tupleItemsOf_ ht ?_)
  refine wpAny_bind (wpAny_typeOf hTs ?_)
  rw [if_pos (by decide)]
  refine wpAny_bind (sliceApplied_rev hs ps ?_)
  have hno : ¬ ((((items.size : Int) - 1) == 0 && (-1 : Int) == 1 && items.size == items.size) = true) := by
    intro q
    rw [Bool.and_eq_true, Bool.and_eq_true] at q
    exact absurd q.1.2 (by decide)
  show wpAny _ _ (if (((items.size : Int) - 1) == 0 && (-1 : Int) == 1 && items.size == items.size) = true then _ else _) _ _ s
  rw [if_neg hno, rev_pick]
  first
    | exact wpAny_bind (m := Builtin.Tuple.tupleExact _) (wpAny_newObj_type (wpAny_pure ⟨_, rfl, wpAny_pure h⟩) htake)
    | exact wpAny_bind (m := Builtin.Tuple.tupleExact _) (wpAny_newObj_type (wpAny_bind (wpAny_pure (wpAny_pure ⟨_, rfl, wpAny_pure h⟩))) htake)
    | exact wpAny_bind (wpAny_bind (m := Builtin.Tuple.tupleExact _) (wpAny_newObj_type (wpAny_pure (wpAny_pure ⟨_, rfl, wpAny_pure h⟩)) htake))
    | exact wpAny_bind (wpAny_bind (m := Builtin.Tuple.tupleExact _) (wpAny_newObj_type (wpAny_pure ⟨_, rfl, wpAny_pure h⟩) htake))
end
/-- x[::st], st of the value -1 -/
def tRevS (K : PySem.W.Frag) (te : TE) (ts : TO) : TE := fun σ H Q => te σ H fun x H1 => ts σ H1 fun o H2 => o = some (-1) ∧
  ((∃ a xs, x = .ref a ∧ SqL K H2 a xs ∧ ∀ p, H2 p = none → Q (.ref p) (upd H2 p (.lst xs.reverse))) ∨ ∃ a xs, x = .ref a ∧ SqT K H2 a xs ∧ NewT H2 xs.reverse Q)
theorem pe_revS {X : Cx} {K : PySem.W.Frag} {e st : Expr} {te : TE} {ts : TO} {p3 pos : Pos} (he : PE X e te) (hst : PO X (some st) ts)
    (htl : ∀ o i, subscripted (.Slice none none (some st) p3) false o i = operate [o, i] (getItem o i) := by intro _ _; with_unfolding_all rfl) (hK : X.K = K := by rfl) : PE X (.Subscript e (.Slice none none (some st) p3) pos) (tRevS K te ts) := by
  subst hK
  refine ⟨fun pins s σ H Q I h => ?_⟩
  refine Subscript_ (thn (he.run pins s σ H _ I h) fun v s1 ⟨x, H1, I1, r1, q1⟩ => ?_)
  refine wpAny_Slice (thn (po_none.run pins s1 σ H1 (fun o H2 => o = none ∧ H2 = H1) I1 ⟨rfl, rfl⟩) fun vl s2 ⟨l, H2, I2, pl, el, e2⟩ => ?_)
  subst el e2
  refine thn (po_none.run pins s2 σ H2 (fun o H3 => o = none ∧ H3 = H2) I2 ⟨rfl, rfl⟩) fun vu s3 ⟨u, H3, I3, pu, eu, e3⟩ => ?_
  subst eu e3
  refine thn (hst.run pins s3 σ H3 _ I3 q1) fun vs s4 ⟨o, H4, I4, ps, eo, q4⟩ => ?_
  subst eo
  have I5 : Inv X pins σ H4 { s4 with heap := s4.heap.push { cls := .type "slice", data := .fields #[vl, vu, vs] } } := I4.kept (t' := s4.toks) fun b ob q => Heap.get?_push_of_some _ q
  rcases q4 with ⟨a, xs, ex, hx, q⟩ | ⟨a, xs, ex, hx, q⟩
  · subst ex
    cases r1
    obtain ⟨its, r, ht, hz⟩ := I5.list hx
    have hlen := r.length
    show wpAny (model X.prog X.w) X.A (subscriptTail e (.Slice none none (some st) p3) (.ref a) (.ref s4.heap.objs.size)) (EP X pins σ Q) X.xe { s4 with heap := s4.heap.push { cls := .type "slice", data := .fields #[vl, vu, vs] } }
    refine tail_any (ops := [.ref a, .ref s4.heap.objs.size]) ht.isList.typeIs (PySem.slot_list_getitem.lookup) ?_ (htl _ _)
    refine wpAny_getItem_list_slice ht.isList (Heap.IsSliceOf.new _ vl vu vs) pl pu ps (by decide) ?_ (by rw [List.size_toArray]; omega)
    rw [PySem.W.krv_pick]
    refine ⟨.ref _, _, I5.laid (t' := s4.toks) (o := .lst xs.reverse) (fun b ob q => Heap.get?_push_of_some _ q) (Nat.le_refl _) ?_, rfl, q _ (I5.hok.fresh (Nat.le_refl _))⟩
    exact ⟨by rw [List.length_reverse]; exact hz, _, 0, r.reverse, Heap.get?_push_size _ rfl⟩
  · subst ex
    cases r1
    obtain ⟨its, r, ht, hz⟩ := I5.tuple hx
    have hlen := r.length
    cases pl
    cases pu
    show wpAny (model X.prog X.w) X.A (subscriptTail e (.Slice none none (some st) p3) (.ref a) (.ref s4.heap.objs.size)) (EP X pins σ Q) X.xe { s4 with heap := s4.heap.push { cls := .type "slice", data := .fields #[.none, .none, vs] } }
    refine tail_any (ops := [.ref a, .ref s4.heap.objs.size]) ht.typeIs (PyProof.Rows.slot_tuple_getitem.lookup) ?_ (htl _ _)
    refine getItem_tuple_rev ht (Heap.IsSliceOf.new _ .none .none vs) ps ?_ (by rw [List.size_toArray]; omega)
    exact laidT (t' := s4.toks) (s := s4) I5 (by rw [List.length_reverse]; exact hz) r.reverse q
section
variable {K : PySem.W.Frag} {E : XK}
def gRev : List M → Option M
  | [.fl (.val (.tuple ds))] => some (.val (.tuple ds.reverse))
  | [.fl (.val (.list ds))] => some (.lst ds.reverse)
  | [.fl (.lst ds)] => some (.lst ds.reverse)
  | _ => none
/-- the operand stands still -/
def cRev (d st : DE) : DE := fun e => (d e).bind fun m e1 => (evP (.e st) e1).bind fun o e2 => match o, gRev [m] with
  | some k, some z => (match decide (k = -1) with
    | true => .ok z e2
    | false => .bad)
  | _, _ => .bad
theorem se_rev {t ts : TE} {d st : DE} (h : SimE K E t d) (hs : SimE K E ts st) : SimE K E (tRevS K t (tPart ts)) (cRev d st) := by
  intro σ vs Hb H e fr Q w h0
  have h1 : PostE K E σ vs fr Q ((d e).bind fun m e1 => (evP (.e st) e1).bind fun o e2 => match o, gRev [m] with
    | some k, some z => (match decide (k = -1) with
      | true => .ok z e2
      | false => .bad)
    | _, _ => .bad) := h0
  refine h.run w (fun m e1 q v Hb1 H1 w1 => ?_) (fun x e1 q => by rw [q] at h1; exact h1) fun q => by rw [q] at h1; exact h1
  rw [q] at h1
  have h2 : PostE K E σ vs fr Q ((evP (.e st) e1).bind fun o e2 => match o, gRev [m] with
    | some k, some z => (match decide (k = -1) with
      | true => .ok z e2
      | false => .bad)
    | _, _ => .bad) := h1
  refine (sp_e hs) σ vs Hb1 H1 e1 _ _ w1 ?_
  cases qa : evP (.e st) e1 with
  | bad => rw [qa] at h2; exact h2.elim
  | exc x e1 => rw [qa] at h2; exact fun c dd Hb H w hx => h2 c dd Hb H w.drop1 hx
  | ok o e2 =>
    rw [qa] at h2
    intro Hb2 H2 w2
    cases o with
    | none => exact h2.elim
    | some k =>
      have h3 : PostE K E σ vs fr Q (match (some k : Option Int), gRev [m] with
        | some k, some z => (match decide (k = -1) with
          | true => .ok z e2
          | false => .bad)
        | _, _ => .bad) := h2
      cases qg : gRev [m] with
      | none => rw [qg] at h3; exact h3.elim
      | some z =>
        rw [qg] at h3
        have h4 : PostE K E σ vs fr Q (match decide (k = -1) with
          | true => .ok z e2
          | false => .bad) := h3
        cases qk : decide (k = -1) with
        | false => rw [qk] at h4; exact h4.elim
        | true =>
          rw [qk] at h4
          have hk : k = -1 := of_decide_eq_true qk
          subst hk
          refine ⟨rfl, ?_⟩
          have o2 := w2.front
          obtain ⟨f, r⟩ := o2.head
          unfold gRev at qg
          split at qg
          · rename_i ds hm
            cases qg
            have hm' : m = .val (.tuple ds) := by simpa using hm
            subst hm'
            obtain ⟨a, xs, rfl, g1, g2⟩ := dp_tup r.2
            exact .inr ⟨a, xs, rfl, (g1.same o2.1).sq, fun p ob hbp hp => h4 _ _ _ (w2.back (own_tup w2.own hbp hp (dpAll_rev g2))).drop2⟩
          · rename_i ds hm
            cases qg
            have hm' : m = .val (.list ds) := by simpa using hm
            subst hm'
            obtain ⟨a, xs, rfl, g1, g2⟩ := dp_lst r.2
            exact .inl ⟨a, xs, rfl, Sm.SqL.same o2.1 g1, fun p hp => h4 _ _ _ (w2.back (own_lst w2.own hp (dpAll_rev g2))).drop2⟩
          · rename_i ds hm
            cases qg
            have hm' : m = .lst ds := by simpa using hm
            subst hm'
            obtain ⟨a, xs, rfl, _, g3, g4, g5⟩ := r
            exact .inl ⟨a, xs, rfl, .inl (.inl g4), fun p hp => h4 _ _ _ (w2.back (own_lst w2.own hp (dpAll_rev g5))).drop2⟩
          · cases qg
/-! ### list(range(..)), tuple(range(..)) -/
def cRng1 (tup : Bool) (d : DE) : DE := fun e => (d e).bind fun m e1 => match asI m with
  | some n => (match decide (0 ≤ n ∧ n.natAbs ≤ 16777216) with
    | true => .ok (match tup with
      | true => .val (.tuple (rngD 0 n.toNat))
      | false => .lst (rngD 0 n.toNat)) e1
    | false => .bad)
  | none => .bad
theorem dpAll_rng {H : Hp} : ∀ (n : Nat) (lo : Int), DpAll K H ((List.range n).map fun i => V.int (lo + (i : Nat))) (rngD lo n)
  | 0, _ => .nil
  | n + 1, lo => by
    rw [List.range_succ_eq_map, List.map_cons, List.map_map]
    have e : ((fun i => V.int (lo + (i : Nat))) ∘ Nat.succ) = fun i : Nat => V.int (lo + 1 + (i : Nat)) := by
      funext i
      have : lo + ((i.succ : Nat) : Int) = lo + 1 + (i : Int) := by omega
      show V.int (lo + ((i.succ : Nat) : Int)) = _
      rw [this]
    rw [e]
    have e0 : lo + ((0 : Nat) : Int) = lo := by omega
    rw [e0]
    exact .cons (.int lo) (dpAll_rng n (lo + 1))
theorem se_lrng {t : TE} {d : DE} (h : SimE K E t d) : SimE K E (tLstRg (tRg1 t)) (cRng1 false d) := by
  intro σ vs Hb H e fr Q w h0
  have h1 : PostE K E σ vs fr Q ((d e).bind fun m e1 => match asI m with
    | some n => (match decide (0 ≤ n ∧ n.natAbs ≤ 16777216) with
      | true => .ok (.lst (rngD 0 n.toNat)) e1
      | false => .bad)
    | none => .bad) := h0
  refine h.run w (fun m e1 q v Hb1 H1 w1 => ?_) (fun x e1 q => by rw [q] at h1; exact h1) fun q => by rw [q] at h1; exact h1
  rw [q] at h1
  have h2 : PostE K E σ vs fr Q (match asI m with
    | some n => (match decide (0 ≤ n ∧ n.natAbs ≤ 16777216) with
      | true => .ok (.lst (rngD 0 n.toNat)) e1
      | false => .bad)
    | none => .bad) := h1
  cases qi : asI m with
  | none => rw [qi] at h2; exact h2.elim
  | some n =>
    rw [qi] at h2
    cases asI_inv qi
    have h3 : PostE K E σ vs fr Q (match decide (0 ≤ n ∧ n.natAbs ≤ 16777216) with
      | true => .ok (.lst (rngD 0 n.toNat)) e1
      | false => .bad) := h2
    cases qd : decide (0 ≤ n ∧ n.natAbs ≤ 16777216) with
    | false => rw [qd] at h3; exact h3.elim
    | true =>
      rw [qd] at h3
      obtain ⟨b1, b2⟩ := of_decide_eq_true qd
      obtain ⟨f, r⟩ := w1.front.head
      refine ⟨n, dp_int r.2, RgOk.of_le (by omega) (by omega) (by omega) b1, fun p hp => h3 _ _ _ (w1.back (own_lst w1.own hp ?_)).drop2⟩
      have := dpAll_rng (K := K) (H := Hb1) n.toNat 0
      unfold rgV
      rw [Int.sub_zero]; exact this
theorem se_trng {t : TE} {d : DE} (h : SimE K E t d) : SimE K E (tTupRgN (tRg1 t)) (cRng1 true d) := by
  intro σ vs Hb H e fr Q w h0
  have h1 : PostE K E σ vs fr Q ((d e).bind fun m e1 => match asI m with
    | some n => (match decide (0 ≤ n ∧ n.natAbs ≤ 16777216) with
      | true => .ok (.val (.tuple (rngD 0 n.toNat))) e1
      | false => .bad)
    | none => .bad) := h0
  refine h.run w (fun m e1 q v Hb1 H1 w1 => ?_) (fun x e1 q => by rw [q] at h1; exact h1) fun q => by rw [q] at h1; exact h1
  rw [q] at h1
  have h2 : PostE K E σ vs fr Q (match asI m with
    | some n => (match decide (0 ≤ n ∧ n.natAbs ≤ 16777216) with
      | true => .ok (.val (.tuple (rngD 0 n.toNat))) e1
      | false => .bad)
    | none => .bad) := h1
  cases qi : asI m with
  | none => rw [qi] at h2; exact h2.elim
  | some n =>
    rw [qi] at h2
    cases asI_inv qi
    have h3 : PostE K E σ vs fr Q (match decide (0 ≤ n ∧ n.natAbs ≤ 16777216) with
      | true => .ok (.val (.tuple (rngD 0 n.toNat))) e1
      | false => .bad) := h2
    cases qd : decide (0 ≤ n ∧ n.natAbs ≤ 16777216) with
    | false => rw [qd] at h3; exact h3.elim
    | true =>
      rw [qd] at h3
      obtain ⟨b1, b2⟩ := of_decide_eq_true qd
      obtain ⟨f, r⟩ := w1.front.head
      refine ⟨n, dp_int r.2, RgOk.of_le (by omega) (by omega) (by omega) b1, fun p ob hbp hp => h3 _ _ _ (w1.back (own_tup w1.own hbp hp ?_)).drop2⟩
      have := dpAll_rng (K := K) (H := Hb1) n.toNat 0
      unfold rgV
      rw [Int.sub_zero]; exact this
/-! ### a, b = x, y, whatever the names are -/
def asgAll : List Nat → List M → Env → Option Env
  | [], [], e => some e
  | i :: is, m :: ms, e => asgAll is ms (e.asg i m)
  | _, _, _ => none
def cTupAsg2 (i j : Nat) (a b : DE) : DS := cPar i j a b
theorem ss_tupasg2 {i j : Nat} {ta tb : TE} {a b : DE} (h1 : SimE K E ta a) (h2 : SimE K E tb b) : SimS K E (tAsg (tTup (tCons ta (tCons tb tNil))) (gTup K 2 (gCons (gName i) (gCons (gName j) gNil)))) (cPar i j a b) := by
  intro σ vs Hb H e fr D w hq
  refine toS_run (k := fun m e1 => (b e1).toS fun n e2 => .nx ((e2.asg i m).asg j n)) h1 w hq fun m e1 v Hb1 H1 w1 p => ?_
  refine h2.run w1 (fun n e2 q u Hb2 H2 w2 => ?_) (fun x e2 q c dd Hb2 H2 w2 hx => ?_) fun q => ?_
  · rw [q] at p
    have w3 : Wld K Hb2 H2 σ vs e2 ((some v, m) :: (some u, n) :: fr) := w2.perm (List.Perm.swap _ _ _)
    refine ⟨line_big (by show 2 ≤ 16777216; decide), fun t ht => ?_⟩
    have w4 := w3.grow (grow_upd (o := .tup [v, u]) w3.same ht)
    exact ⟨t, [v, u], rfl, .inl (.inl upd_same), rfl, v, [u], rfl, u, [], rfl, rfl, p _ _ _ ((w4.asg i).asg j)⟩
  · rw [q] at p; exact p c dd σ Hb2 H2 w2.drop1 hx
  · rw [q] at p; exact p
theorem ss_tupasg3 {i j l : Nat} {ta tb tc : TE} {a b c : DE} (h1 : SimE K E ta a) (h2 : SimE K E tb b) (h3 : SimE K E tc c) : SimS K E (tAsg (tTup (tCons ta (tCons tb (tCons tc tNil)))) (gTup K 3 (gCons (gName i) (gCons (gName j) (gCons (gName l) gNil))))) (cPar3 i j l a b c) := by
  intro σ vs Hb H e fr D w hq
  refine toS_run (k := fun m e1 => (b e1).toS fun n e2 => (c e2).toS fun o e3 => .nx (((e3.asg i m).asg j n).asg l o)) h1 w hq fun m e1 v Hb1 H1 w1 p => ?_
  refine h2.run w1 (fun n e2 q u Hb2 H2 w2 => ?_) (fun x e2 q c dd Hb2 H2 w2 hx => ?_) fun q => ?_
  · rw [q] at p
    have p' : PostS K E vs fr D ((c e2).toS fun o e3 => .nx (((e3.asg i m).asg j n).asg l o)) := p
    refine h3.run w2 (fun o e3 q u3 Hb3 H3 w3 => ?_) (fun x e3 q c dd Hb3 H3 w3 hx => ?_) fun q => ?_
    · rw [q] at p'
      have w4 : Wld K Hb3 H3 σ vs e3 ((some v, m) :: (some u, n) :: (some u3, o) :: fr) := w3.perm (by
        refine (List.Perm.cons _ (List.Perm.swap _ _ _)).trans ?_
        refine (List.Perm.swap _ _ _).trans (List.Perm.cons _ (List.Perm.swap _ _ _)))
      refine ⟨line_big (by show 3 ≤ 16777216; decide), fun t ht => ?_⟩
      have w5 := w4.grow (grow_upd (o := .tup [v, u, u3]) w4.same ht)
      exact ⟨t, [v, u, u3], rfl, .inl (.inl upd_same), rfl, v, [u, u3], rfl, u, [u3], rfl, u3, [], rfl, rfl, p' _ _ _ (((w5.asg i).asg j).asg l)⟩
    · rw [q] at p'; exact p' c dd σ Hb3 H3 w3.drop1.drop1 hx
    · rw [q] at p'; exact p'
  · rw [q] at p; exact p c dd σ Hb2 H2 w2.drop1 hx
  · rw [q] at p; exact p
end
end Sm

/-! SimD: dicts. -/
namespace Sm
open PySem PySem.Spec PyProof.Rows L2
abbrev KVs := List (Key × PyData)
def valD (kvs : KVs) (k : Key) : Option PyData := (kvs.find? fun kv => decide (kv.1 = k)).map (·.2)
def putD (kvs : KVs) (k : Key) (d : PyData) : KVs :=
  if (kvs.any fun kv => decide (kv.1 = k)) = true then kvs.map (fun kv => if kv.1 = k then (kv.1, d) else kv) else kvs ++ [(k, d)]
def keyD : PyData → Option Key
  | .int i => some (.inl i)
  | .str x => some (.inr x)
  | _ => none
def keyM : M → Option Key
  | .fl (.val d) => keyD d
  | _ => none
def dctOf : M → Option KVs
  | .fl (.dct kvs) => some kvs
  | _ => none
def dctFld (C : Addr) (f : Str) : M → Option KVs
  | .ins D fs => match decide (D = C), fs.lookup f with
    | true, some (.dct kvs) => some kvs
    | _, _ => none
  | _ => none
section
variable {K : PySem.W.Frag} {E : XK}
theorem dctOf_inv {m : M} {kvs : KVs} (h : dctOf m = some kvs) : m = .dct kvs := by
  unfold dctOf at h
  split at h
  · cases h; rfl
  · cases h
theorem key_dp {H : Hp} {v : V} {d : PyData} {k : Key} (r : Dp K H v d) (h : keyD d = some k) : v = kV k := by
  cases d with
  | int i => cases h; exact dp_int r
  | str x => cases h; exact dp_str r
  | _ => cases h
theorem keyM_inv {m : M} {k : Key} (h : keyM m = some k) : ∃ d, m = .val d ∧ keyD d = some k := by
  unfold keyM at h
  split at h
  · exact ⟨_, rfl, h⟩
  · cases h
theorem kd_val {Hb : Hp} {k : Key} : ∀ {ws : List (Key × V)} {kvs : KVs}, KD K Hb ws kvs → (valD kvs k = none ∧ valV ws k = none) ∨ ∃ d v, valD kvs k = some d ∧ valV ws k = some v ∧ Dp K Hb v d
  | _, _, .nil => .inl ⟨rfl, rfl⟩
  | _, _, .cons (a := p) (b := q) r t => by
    obtain ⟨e1, e2⟩ := r
    by_cases c : q.1 = k
    · refine .inr ⟨q.2, p.2, ?_, ?_, e2⟩
      · simp [valD, List.find?_cons, c]
      · simp [valV, List.find?_cons, e1, c]
    · have c2 : ¬ p.1 = k := by rw [e1]; exact c
      have h1 : ∀ l, valD (q :: l) k = valD l k := fun l => by simp [valD, List.find?_cons, c]
      have h2 : ∀ l, valV (p :: l) k = valV l k := fun l => by simp [valV, List.find?_cons, c2]
      rw [h1, h2]
      exact kd_val t
theorem kd_any {Hb : Hp} {k : Key} : ∀ {ws : List (Key × V)} {kvs : KVs}, KD K Hb ws kvs → (ws.any fun kv => decide (kv.1 = k)) = (kvs.any fun kv => decide (kv.1 = k))
  | _, _, .nil => rfl
  | _, _, .cons r t => by
    rw [List.any_cons, List.any_cons, r.1, kd_any t]
theorem kd_map {Hb : Hp} {k : Key} {v : V} {d : PyData} (rd : Dp K Hb v d) : ∀ {ws : List (Key × V)} {kvs : KVs}, KD K Hb ws kvs → KD K Hb (ws.map fun kv => if kv.1 = k then (kv.1, v) else kv) (kvs.map fun kv => if kv.1 = k then (kv.1, d) else kv)
  | _, _, .nil => .nil
  | _, _, .cons (a := p) (b := q) r t => by
    refine .cons ?_ (kd_map rd t)
    by_cases c : q.1 = k
    · have c2 : p.1 = k := by rw [r.1]; exact c
      show (if p.1 = k then (p.1, v) else p).1 = (if q.1 = k then (q.1, d) else q).1 ∧ Dp K Hb (if p.1 = k then (p.1, v) else p).2 (if q.1 = k then (q.1, d) else q).2
      rw [if_pos c, if_pos c2]
      exact ⟨r.1, rd⟩
    · have c2 : ¬ p.1 = k := by rw [r.1]; exact c
      show (if p.1 = k then (p.1, v) else p).1 = (if q.1 = k then (q.1, d) else q).1 ∧ Dp K Hb (if p.1 = k then (p.1, v) else p).2 (if q.1 = k then (q.1, d) else q).2
      rw [if_neg c, if_neg c2]
      exact r
theorem kd_app {Hb : Hp} : ∀ {ws ws' : List (Key × V)} {kvs kvs' : KVs}, KD K Hb ws kvs → KD K Hb ws' kvs' → KD K Hb (ws ++ ws') (kvs ++ kvs')
  | _, _, _, _, .nil, h => h
  | _, _, _, _, .cons r t, h => .cons r (kd_app t h)
theorem kd_put {Hb : Hp} {k : Key} {v : V} {d : PyData} {ws : List (Key × V)} {kvs : KVs} (h : KD K Hb ws kvs) (rd : Dp K Hb v d) : KD K Hb (putK ws k v) (putD kvs k d) := by
  unfold putK putD
  rw [kd_any h]
  by_cases c : (kvs.any fun kv => decide (kv.1 = k)) = true
  · rw [if_pos c, if_pos c]; exact kd_map rd h
  · rw [if_neg c, if_neg c]; exact kd_app h (.cons ⟨rfl, rd⟩ .nil)
theorem kd_len {Hb : Hp} {ws : List (Key × V)} {kvs : KVs} (h : KD K Hb ws kvs) : ws.length = kvs.length := Paired.length h
/-! ### new ones -/
theorem own_dct {Hb H : Hp} {es : List Ent} {p : Addr} {ws : List (Key × V)} {kvs : KVs} (o : Own K Hb H es) (hp : H p = none) (hd : KD K Hb ws kvs) : Own K Hb (upd H p (.dK ws)) ((some (.ref p), .dct kvs) :: es) :=
  o.new (f := [p]) (grow_upd o.1 hp) ⟨p, ws, rfl, rfl, o.1.free hp, upd_same, hd⟩ fun z hz => by
    have : z = p := by simpa using hz
    subst this; exact hp
theorem se_dnew : SimE K E tDNewK (cC (.dct [])) := fun σ vs Hb H e fr Q w h p hp => h (.ref p) Hb _ (w.back (own_dct w.own hp .nil))
/-- {a: b}, numbers -/
theorem se_disp1 {a b : Int} : SimE K E (tDisp [(tC (.int a), tC (.int b))]) (cC (.dct [(.inl a, .int b)])) := by
  intro σ vs Hb H e fr Q w h p hp
  refine ⟨upd_same, [(Sum.inl a, V.int b)], rfl, (by show 1 ≤ 15; decide), ?_⟩
  rw [upd_upd]
  exact h (.ref p) Hb _ (w.back (own_dct w.own hp (.cons ⟨rfl, .int b⟩ .nil)))
/-! ### asked -/
theorem dget_of {Hb H : Hp} {v : V} {kvs : KVs} {f : List Addr} {k : Key} (r : RM K Hb H v (.dct kvs) f) : ∃ a o, v = .ref a ∧ DGet H a (kV k) o ∧ ((valD kvs k = none ∧ o = none) ∨ ∃ d y, valD kvs k = some d ∧ o = some y ∧ Dp K Hb y d) := by
  obtain ⟨a, ws, rfl, _, e3, e4, e5⟩ := r
  refine ⟨a, valV ws k, rfl, DGet.k e4, ?_⟩
  rcases kd_val (k := k) e5 with ⟨h1, h2⟩ | ⟨d, v, h1, h2, h3⟩
  · exact .inl ⟨h1, h2⟩
  · exact .inr ⟨d, v, h1, h2, h3⟩
def cDIn (neg : Bool) (i : Nat) (k : DE) : DE := fun e => (k e).bind fun m e1 => match keyM m, dctOf (e1.get i) with
  | some q, some kvs => .ok (.val (.bool (neg ^^ (valD kvs q).isSome))) e1
  | _, _ => .bad
theorem din_gen {neg : Bool} {i : Nat} {ty : TE} {k : DE} (h : SimE K E ty k) {σ : L2.St} {vs : List V} {Hb H : Hp} {e : Env} {fr : List Ent} {Q : VK} (w : Wld K Hb H σ vs e fr) (h0 : PostE K E σ vs fr Q (cDIn neg i k e)) :
    ty σ H fun y H1 => tVar i σ H1 fun x H2 => ∃ a o, x = .ref a ∧ DGet H2 a y o ∧ Q (.bl (neg ^^ o.isSome)) H2 := by
  have h1 : PostE K E σ vs fr Q ((k e).bind fun m e1 => match keyM m, dctOf (e1.get i) with
    | some q, some kvs => .ok (.val (.bool (neg ^^ (valD kvs q).isSome))) e1
    | _, _ => .bad) := h0
  refine h.run w (fun m e1 q v Hb1 H1 w1 => ?_) (fun x e1 q => by rw [q] at h1; exact h1) fun q => by rw [q] at h1; exact h1
  rw [q] at h1
  have h2 : PostE K E σ vs fr Q (match keyM m, dctOf (e1.get i) with
    | some q, some kvs => .ok (.val (.bool (neg ^^ (valD kvs q).isSome))) e1
    | _, _ => .bad) := h1
  cases qk : keyM m with
  | none => rw [qk] at h2; exact h2.elim
  | some kk =>
    rw [qk] at h2
    cases qd : dctOf (e1.get i) with
    | none => rw [qd] at h2; exact h2.elim
    | some kvs =>
      rw [qd] at h2
      obtain ⟨d, rfl, hk⟩ := keyM_inv qk
      have eg := dctOf_inv qd
      obtain ⟨g, r⟩ := w1.front.head
      have ev := key_dp r.2 hk
      subst ev
      obtain ⟨u, hu, f, ru⟩ := w1.slot (i := i) (by rw [eg]; rfl)
      rw [eg] at ru
      obtain ⟨a, o, rfl, ho, hv⟩ := dget_of (k := kk) ru
      refine ⟨_, hu, a, o, rfl, ho, ?_⟩
      have : (valD kvs kk).isSome = o.isSome := by
        rcases hv with ⟨z1, z2⟩ | ⟨d', y, z1, z2, _⟩ <;> rw [z1, z2] <;> rfl
      rw [← this]
      exact h2 _ Hb1 H1 (w1.drop1.back (w1.drop1.own.val (.bl _)))
theorem se_din {i : Nat} {ty : TE} {k : DE} (h : SimE K E ty k) : SimE K E (tDIn ty (tVar i)) (cDIn false i k) := by
  intro σ vs Hb H e fr Q w h0
  have := din_gen (neg := false) h w h0
  simp only [Bool.false_xor] at this
  exact this
theorem se_dnotin {i : Nat} {ty : TE} {k : DE} (h : SimE K E ty k) : SimE K E (tDNotIn ty (tVar i)) (cDIn true i k) := by
  intro σ vs Hb H e fr Q w h0
  have := din_gen (neg := true) h w h0
  simp only [Bool.true_xor] at this
  exact this
/-! a field that is a dict -/
theorem dctFld_inv {C : Addr} {f : Str} {m : M} {kvs : KVs} (h : dctFld C f m = some kvs) : ∃ fs, m = .ins C fs ∧ fs.lookup f = some (.dct kvs) := by
  cases m with
  | fl x => cases h
  | ins D fs =>
    have h' : (match decide (D = C), fs.lookup f with
      | true, some (.dct kvs) => some kvs
      | _, _ => none) = some kvs := h
    split at h'
    · rename_i kvs' h1 h2
      cases h'
      have : D = C := of_decide_eq_true h1
      subst this
      exact ⟨fs, rfl, h2⟩
    · cases h'
def cDInF (neg : Bool) (C : Addr) (i : Nat) (f : Str) (k : DE) : DE := fun e => (k e).bind fun m e1 => match keyM m, dctFld C f (e1.get i) with
  | some q, some kvs => .ok (.val (.bool (neg ^^ (valD kvs q).isSome))) e1
  | _, _ => .bad
theorem dinF_gen {neg : Bool} {C : Addr} {f : Str} {i : Nat} {ty : TE} {k : DE} (c : Cls K C) (nf : NoAttr K C f) (h : SimE K E ty k) {σ : L2.St} {vs : List V} {Hb H : Hp} {e : Env} {fr : List Ent} {Q : VK} (w : Wld K Hb H σ vs e fr) (h0 : PostE K E σ vs fr Q (cDInF neg C i f k e)) :
    ty σ H fun y H1 => tFld K (tVar i) f σ H1 fun x H2 => ∃ a o, x = .ref a ∧ DGet H2 a y o ∧ Q (.bl (neg ^^ o.isSome)) H2 := by
  have h1 : PostE K E σ vs fr Q ((k e).bind fun m e1 => match keyM m, dctFld C f (e1.get i) with
    | some q, some kvs => .ok (.val (.bool (neg ^^ (valD kvs q).isSome))) e1
    | _, _ => .bad) := h0
  refine h.run w (fun m e1 q v Hb1 H1 w1 => ?_) (fun x e1 q => by rw [q] at h1; exact h1) fun q => by rw [q] at h1; exact h1
  rw [q] at h1
  have h2 : PostE K E σ vs fr Q (match keyM m, dctFld C f (e1.get i) with
    | some q, some kvs => .ok (.val (.bool (neg ^^ (valD kvs q).isSome))) e1
    | _, _ => .bad) := h1
  cases qk : keyM m with
  | none => rw [qk] at h2; exact h2.elim
  | some kk =>
    rw [qk] at h2
    cases qd : dctFld C f (e1.get i) with
    | none => rw [qd] at h2; exact h2.elim
    | some kvs =>
      rw [qd] at h2
      obtain ⟨d, rfl, hk⟩ := keyM_inv qk
      obtain ⟨fs, eg, hl⟩ := dctFld_inv qd
      obtain ⟨g, r⟩ := w1.front.head
      have ev := key_dp r.2 hk
      subst ev
      obtain ⟨u, hu, f', ru⟩ := w1.slot (i := i) (by rw [eg]; rfl)
      rw [eg] at ru
      obtain ⟨a, dx, ws, g', rfl, _, _, e4, e5, _⟩ := ru
      obtain ⟨y, g2, l, ry⟩ := (rfs_lookup e5 f).2 _ hl
      obtain ⟨b, o, rfl, ho, hv⟩ := dget_of (k := kk) (v := y) (kvs := kvs) (f := g2) ry
      refine ⟨_, hu, a, C, dx, ws, _, rfl, e4, c, nf, l, b, o, rfl, ho, ?_⟩
      have : (valD kvs kk).isSome = o.isSome := by
        rcases hv with ⟨z1, z2⟩ | ⟨d', y, z1, z2, _⟩ <;> rw [z1, z2] <;> rfl
      rw [← this]
      exact h2 _ Hb1 H1 (w1.drop1.back (w1.drop1.own.val (.bl _)))
theorem se_dinF {C : Addr} {f : Str} {i : Nat} {ty : TE} {k : DE} (c : Cls K C) (nf : NoAttr K C f) (h : SimE K E ty k) : SimE K E (tDIn ty (tFld K (tVar i) f)) (cDInF false C i f k) := by
  intro σ vs Hb H e fr Q w h0
  have := dinF_gen (neg := false) c nf h w h0
  simp only [Bool.false_xor] at this
  exact this
theorem se_dnotinF {C : Addr} {f : Str} {i : Nat} {ty : TE} {k : DE} (c : Cls K C) (nf : NoAttr K C f) (h : SimE K E ty k) : SimE K E (tDNotIn ty (tFld K (tVar i) f)) (cDInF true C i f k) := by
  intro σ vs Hb H e fr Q w h0
  have := dinF_gen (neg := true) c nf h w h0
  simp only [Bool.true_xor] at this
  exact this
/-! ### d[k], d.get(k, x) -/
def isDct : M → Bool
  | .fl (.dct _) => true
  | _ => false
theorem isDct_inv {m : M} (h : isDct m = true) : ∃ kvs, m = .dct kvs := by
  unfold isDct at h
  split at h
  · exact ⟨_, rfl⟩
  · cases h
def cDGet (i : Nat) (k : DE) : DE := fun e => match isDct (e.get i) with
  | false => .bad
  | true => (k e).bind fun m e1 => match keyM m, dctOf (e1.get i) with
    | some q, some kvs => (match valD kvs q with
      | some d => .ok (.val d) e1
      | none => .bad)
    | _, _ => .bad
theorem se_dget {i : Nat} {ty : TE} {k : DE} (h : SimE K E ty k) : SimE K E (tDGet (tVar i) ty) (cDGet i k) := by
  intro σ vs Hb H e fr Q w h0
  have h1 : PostE K E σ vs fr Q (match isDct (e.get i) with
    | false => .bad
    | true => (k e).bind fun m e1 => match keyM m, dctOf (e1.get i) with
      | some q, some kvs => (match valD kvs q with
        | some d => .ok (.val d) e1
        | none => .bad)
      | _, _ => .bad) := h0
  cases qi : isDct (e.get i) with
  | false => rw [qi] at h1; exact h1.elim
  | true =>
    rw [qi] at h1
    obtain ⟨kv0, eg0⟩ := isDct_inv qi
    obtain ⟨u, hu, _⟩ := w.slot (i := i) (by rw [eg0]; rfl)
    refine ⟨u, hu, ?_⟩
    have h2 : PostE K E σ vs fr Q ((k e).bind fun m e1 => match keyM m, dctOf (e1.get i) with
      | some q, some kvs => (match valD kvs q with
        | some d => .ok (.val d) e1
        | none => .bad)
      | _, _ => .bad) := h1
    refine h.run w (fun m e1 q v Hb1 H1 w1 => ?_) (fun x e1 q => by rw [q] at h2; exact h2) fun q => by rw [q] at h2; exact h2
    rw [q] at h2
    have h3 : PostE K E σ vs fr Q (match keyM m, dctOf (e1.get i) with
      | some q, some kvs => (match valD kvs q with
        | some d => .ok (.val d) e1
        | none => .bad)
      | _, _ => .bad) := h2
    cases qk : keyM m with
    | none => rw [qk] at h3; exact h3.elim
    | some kk =>
      rw [qk] at h3
      cases qd : dctOf (e1.get i) with
      | none => rw [qd] at h3; exact h3.elim
      | some kvs =>
        rw [qd] at h3
        obtain ⟨d, rfl, hk⟩ := keyM_inv qk
        have eg := dctOf_inv qd
        obtain ⟨g, r⟩ := w1.front.head
        have ev := key_dp r.2 hk
        subst ev
        obtain ⟨u', hu', f, ru⟩ := w1.slot (i := i) (by rw [eg]; rfl)
        rw [hu] at hu'
        have : u = u' := Option.some.inj (Option.some.inj hu')
        subst this
        rw [eg] at ru
        obtain ⟨a, o, rfl, ho, hv⟩ := dget_of (k := kk) ru
        have h4 : PostE K E σ vs fr Q (match valD kvs kk with
          | some d => .ok (.val d) e1
          | none => .bad) := h3
        rcases hv with ⟨z1, z2⟩ | ⟨d', y, z1, z2, z3⟩
        · rw [z1] at h4; exact h4.elim
        · rw [z1] at h4
          subst z2
          exact ⟨a, y, rfl, ho, h4 y Hb1 H1 (w1.drop1.back (w1.drop1.own.val z3))⟩
def valOf : M → Option PyData
  | .fl (.val d) => some d
  | _ => none
theorem valOf_inv {m : M} {d : PyData} (h : valOf m = some d) : m = .val d := by
  unfold valOf at h
  split at h
  · cases h; rfl
  · cases h
def dget2M (m c n : M) : Option M := (keyM m).bind fun q => (dctOf c).bind fun kvs => (valOf n).bind fun z => some (.val ((valD kvs q).getD z))
theorem dget2M_inv {m c n r : M} (h : dget2M m c n = some r) : ∃ q kvs z, keyM m = some q ∧ c = .dct kvs ∧ n = .val z ∧ r = .val ((valD kvs q).getD z) := by
  obtain ⟨q, h1, h⟩ := Option.bind_eq_some_iff.mp h
  obtain ⟨kvs, h2, h⟩ := Option.bind_eq_some_iff.mp h
  obtain ⟨z, h3, h⟩ := Option.bind_eq_some_iff.mp h
  cases h
  exact ⟨q, kvs, z, h1, dctOf_inv h2, valOf_inv h3, rfl⟩
def cDGet2 (i : Nat) (k x : DE) : DE := fun e => match isDct (e.get i) with
  | false => .bad
  | true => (k e).bind fun m e1 => (x e1).bind fun n e2 => match dget2M m (e2.get i) n with
    | some r => .ok r e2
    | none => .bad
theorem se_dget2 {i : Nat} {ty tx : TE} {k x : DE} (h : SimE K E ty k) (hx : SimE K E tx x) : SimE K E (tDGet2 (tVar i) ty tx) (cDGet2 i k x) := by
  intro σ vs Hb H e fr Q w h0
  have h1 : PostE K E σ vs fr Q (match isDct (e.get i) with
    | false => .bad
    | true => (k e).bind fun m e1 => (x e1).bind fun n e2 => match dget2M m (e2.get i) n with
      | some r => .ok r e2
      | none => .bad) := h0
  cases qi : isDct (e.get i) with
  | false => rw [qi] at h1; exact h1.elim
  | true =>
    rw [qi] at h1
    obtain ⟨kv0, eg0⟩ := isDct_inv qi
    obtain ⟨u, hu, f0, ru0⟩ := w.slot (i := i) (by rw [eg0]; rfl)
    rw [eg0] at ru0
    obtain ⟨a0, ws0, ea0, _, _, e40, _⟩ := ru0
    subst ea0
    refine ⟨_, hu, a0, rfl, .inl ⟨ws0, .inl e40⟩, ?_⟩
    have h2 : PostE K E σ vs fr Q ((k e).bind fun m e1 => (x e1).bind fun n e2 => match dget2M m (e2.get i) n with
      | some r => .ok r e2
      | none => .bad) := h1
    refine h.run w (fun m e1 q v Hb1 H1 w1 => ?_) (fun x e1 q => by rw [q] at h2; exact h2) fun q => by rw [q] at h2; exact h2
    rw [q] at h2
    have h3 : PostE K E σ vs fr Q ((x e1).bind fun n e2 => match dget2M m (e2.get i) n with
      | some r => .ok r e2
      | none => .bad) := h2
    refine hx.run w1 (fun n e2 q2 v2 Hb2 H2 w2 => ?_) (fun x e2 q2 => by rw [q2] at h3; exact fun c dd Hb H w' hx => h3 c dd Hb H w'.drop1 hx) fun q2 => by rw [q2] at h3; exact h3
    rw [q2] at h3
    have h4 : PostE K E σ vs fr Q (match dget2M m (e2.get i) n with
      | some r => .ok r e2
      | none => .bad) := h3
    cases qm : dget2M m (e2.get i) n with
    | none => rw [qm] at h4; exact h4.elim
    | some r0 =>
      rw [qm] at h4
      obtain ⟨kk, kvs, z, qk, eg, rfl, rfl⟩ := dget2M_inv qm
      obtain ⟨d, rfl, hk⟩ := keyM_inv qk
      obtain ⟨g, r⟩ := w2.drop1.front.head
      have ev := key_dp r.2 hk
      subst ev
      obtain ⟨g2, r2⟩ := w2.front.head
      obtain ⟨u', hu', f, ru⟩ := w2.slot (i := i) (by rw [eg]; rfl)
      rw [hu] at hu'
      have : V.ref a0 = u' := Option.some.inj (Option.some.inj hu')
      subst this
      rw [eg] at ru
      obtain ⟨a, o, ea, ho, hv⟩ := dget_of (k := kk) ru
      cases ea
      refine ⟨o, ho, ?_⟩
      have w3 := w2.drop1.drop1
      rcases hv with ⟨z1, z2⟩ | ⟨d', y, z1, z2, z3⟩
      · subst z2
        rw [z1] at h4
        exact h4 v2 Hb2 H2 (w3.back (w3.own.val r2.2))
      · subst z2
        rw [z1] at h4
        exact h4 y Hb2 H2 (w3.back (w3.own.val z3))
/-! ### d[k] = e -/
theorem own_dput {Hb H : Hp} {es : List Ent} {a : Addr} {kvs kvs' : KVs} {ws' : List (Key × V)} (o : Own K Hb H ((some (.ref a), .dct kvs) :: es)) (hd : KD K Hb ws' kvs') : Own K Hb (upd H a (.dK ws')) ((some (.ref a), .dct kvs') :: es) := by
  refine o.swap fun f r => ?_
  obtain ⟨b, xs, e1, e2, e3, e4, e5⟩ := r
  cases e1
  refine ⟨[a], ⟨fun _ _ e => e, fun p u e n => ?_, fun p u e => ?_, fun p h1 h2 => absurd h1 h2⟩, ⟨a, ws', rfl, rfl, e3, upd_same, hd⟩, fun p hp => .inl (by rw [e2]; exact hp)⟩
  · rw [upd_ne (fun z => n (by rw [z, e2]; simp))]; exact e
  · rw [upd_ne (fun z => by rw [z, e3] at e; cases e)]; exact o.1 _ _ e
def dputM (n c m : M) : Option M := (keyM n).bind fun q => (dctOf c).bind fun kvs => (valOf m).bind fun y => if kvs.length < 16777216 then some (.dct (putD kvs q y)) else none
theorem dputM_inv {n c m r : M} (h : dputM n c m = some r) : ∃ q kvs y, keyM n = some q ∧ c = .dct kvs ∧ m = .val y ∧ kvs.length < 16777216 ∧ r = .dct (putD kvs q y) := by
  obtain ⟨q, h1, h⟩ := Option.bind_eq_some_iff.mp h
  obtain ⟨kvs, h2, h⟩ := Option.bind_eq_some_iff.mp h
  obtain ⟨y, h3, h⟩ := Option.bind_eq_some_iff.mp h
  split at h
  · rename_i hd
    cases h
    exact ⟨q, kvs, y, h1, dctOf_inv h2, valOf_inv h3, hd, rfl⟩
  · cases h
def cDPut (i : Nat) (d k : DE) : DS := fun e => (d e).toS fun m e1 => match isDct (e1.get i) with
  | false => .bad
  | true => (k e1).toS fun n e2 => match dputM n (e2.get i) m with
    | some z => .nx (e2.put i z)
    | none => .bad
theorem ss_dput {i : Nat} {tv ty : TE} {d k : DE} (h : SimE K E tv d) (hk : SimE K E ty k) : SimS K E (sDPut (tVar i) ty tv) (cDPut i d k) := by
  intro σ vs Hb H e fr D w hq
  refine toS_run (k := fun m e1 => match isDct (e1.get i) with
    | false => .bad
    | true => (k e1).toS fun n e2 => match dputM n (e2.get i) m with
      | some z => .nx (e2.put i z)
      | none => .bad) h w hq fun m e1 v Hb1 H1 w1 p => ?_
  cases qi : isDct (e1.get i) with
  | false => rw [qi] at p; exact p.elim
  | true =>
    rw [qi] at p
    obtain ⟨kv0, eg0⟩ := isDct_inv qi
    obtain ⟨u, hu, _⟩ := w1.slot (i := i) (by rw [eg0]; rfl)
    refine ⟨u, hu, ?_⟩
    have p' : PostS K E vs fr D ((k e1).toS fun n e2 => match dputM n (e2.get i) m with
      | some z => .nx (e2.put i z)
      | none => .bad) := p
    refine hk.run w1 (fun n e2 q2 z Hb2 H2 w2 => ?_) (fun x e2 q c dd Hb2 H2 w2 hx => ?_) fun q => ?_
    · rw [q2] at p'
      have p3 : PostS K E vs fr D (match dputM n (e2.get i) m with
        | some z => .nx (e2.put i z)
        | none => .bad) := p'
      cases qs : dputM n (e2.get i) m with
      | none => rw [qs] at p3; exact p3.elim
      | some zz =>
        rw [qs] at p3
        obtain ⟨kk, kvs, y, qk, eg, rfl, hlen, rfl⟩ := dputM_inv qs
        obtain ⟨dd, rfl, hkk⟩ := keyM_inv qk
        obtain ⟨g, r⟩ := w2.front.head
        have ev := key_dp r.2 hkk
        subst ev
        have w3 : Wld K Hb2 H2 σ vs e2 ((some v, .val y) :: fr) := w2.drop1
        have hh : (e2.get i).isHole = false := by rw [eg]; rfl
        obtain ⟨u', hu', w4⟩ := w3.take hh
        rw [hu] at hu'
        have : u = u' := Option.some.inj (Option.some.inj hu')
        subst this
        rw [eg] at w4
        have o := w4.front
        obtain ⟨_, a, ws, rfl, _, r3, r4, r5⟩ := o.head
        obtain ⟨_, rv⟩ := w3.front.head
        refine ⟨a, _, rfl, DPut.k r4 (by rw [kd_len r5, sizeLine_eq]; exact hlen), p3 σ Hb2 _ ?_⟩
        have o2 := own_dput o (kd_put (k := kk) r5 rv.2)
        have w5 : Wld K Hb2 (upd H2 a (.dK (putK ws kk v))) σ vs (e2.put i .hole) ((some (.ref a), .dct (putD kvs kk y)) :: (some v, .val y) :: fr) := w4.drop1.back o2
        have w6 := w5.drop2.put (i := i) hu
        rw [put_put hh] at w6
        exact w6
    · rw [q] at p'; exact p' c dd σ Hb2 H2 w2.drop1 hx
    · rw [q] at p'; exact p'
end
end Sm

/-! SimL: walks through a dict, sums of values, dicts in fields, dict comprehensions. -/
namespace Sm
open PySem PySem.Spec PyProof.Rows L2
section
variable {K : PySem.W.Frag} {E : XK}
/-- the walk itself, what is walked being given -/
theorem for_run {g : TG} {tb : TS} {dg : DG} {body : DS} (hg : SimG K g dg) (hb : SimS K E tb body) {J : It} {X fr : List Ent} {ds : List PyData} {Hb1 H1 : Hp} {σ : L2.St} {vs : List V} {e1 : Env} {D : Ends}
    (hJ : Walks K J ds X) (w1 : Wld K Hb1 H1 σ vs e1 (X ++ fr)) (h1 : PostS K E vs (X ++ fr) D (forD dg body ds e1)) :
    ∃ W : Nat → Nat → L2.St → Hp → Prop, (∃ m, W 0 m σ H1) ∧ ∀ i m σ H, W i m σ H →
      (J.stop i H ∧ D.nx σ H) ∨ (J.go i H ∧ ∃ N : L2.St → Hp → Prop, (∀ σ' H', N σ' H' → ∃ m', m' < m ∧ W (i + 1) m' σ' H') ∧ ∀ x H', J.yld i H x H' → g x σ H' fun σ2 H2 => tb { D with nx := N, ct := N, bk := D.nx } σ2 H2) := by
  refine ⟨fun i m σ H => m = ds.length - i ∧ i ≤ ds.length ∧ ∃ Hb e, Wld K Hb H σ vs e (X ++ fr) ∧ PostS K E vs (X ++ fr) D (forD dg body (ds.drop i) e), ⟨ds.length, by simp, Nat.zero_le _, Hb1, e1, w1, by simpa using h1⟩, ?_⟩
  rintro i m σ2 H2 ⟨rfl, hi2, Hb2, e2, w2, p2⟩
  have o2 : Own K Hb2 H2 (X ++ (e2.ents σ2 vs fr)) := w2.own.perm (ents_app e2 σ2 vs X fr).symm
  obtain ⟨hgo, hstop⟩ := hJ Hb2 H2 _ i o2
  by_cases hlt : i < ds.length
  · right
    have hd : ds[i]? = some ds[i] := List.getElem?_eq_getElem hlt
    obtain ⟨h3, h4⟩ := hgo _ hd
    have hdrop : ds.drop i = ds[i] :: ds.drop (i + 1) := List.drop_eq_getElem_cons hlt
    rw [hdrop] at p2
    have p3 : PostS K E vs (X ++ fr) D (match dg ds[i] e2 with
      | none => .bad
      | some e1 => match body e1 with
        | .nx e2 => forD dg body (ds.drop (i + 1)) e2
        | .ct e2 => forD dg body (ds.drop (i + 1)) e2
        | .brk e2 => .nx e2
        | .ret m e2 => .ret m e2
        | .exc x e2 => .exc x e2
        | .bad => .bad) := p2
    refine ⟨h3, fun σ H => ∃ Hb e, Wld K Hb H σ vs e (X ++ fr) ∧ PostS K E vs (X ++ fr) D (forD dg body (ds.drop (i + 1)) e), fun σ' H' hN => ⟨ds.length - (i + 1), by omega, rfl, hlt, hN⟩, fun x H' hy => ?_⟩
    obtain ⟨Hb3, o3⟩ := h4 x H' hy
    have w0 : Wld K Hb3 H' σ2 vs e2 (X ++ fr) := w2.fr1 (o3.tail.perm (ents_app e2 σ2 vs X fr))
    have w3 : Wld K Hb3 H' σ2 vs e2 ((some x, .val ds[i]) :: (X ++ fr)) := w0.back (o3.perm (List.Perm.cons _ (ents_app e2 σ2 vs X fr)))
    cases qg : dg ds[i] e2 with
    | none => rw [qg] at p3; exact p3.elim
    | some e3 =>
      rw [qg] at p3
      refine hg σ2 vs Hb3 H' e2 (X ++ fr) x _ _ w3 ⟨e3, qg, fun σ' Hb' H'' w4 => ?_⟩
      have p4 : PostS K E vs (X ++ fr) D (match body e3 with
        | .nx e2 => forD dg body (ds.drop (i + 1)) e2
        | .ct e2 => forD dg body (ds.drop (i + 1)) e2
        | .brk e2 => .nx e2
        | .ret m e2 => .ret m e2
        | .exc x e2 => .exc x e2
        | .bad => .bad) := p3
      refine hb σ' vs Hb' H'' e3 (X ++ fr) _ w4 ?_
      cases qb : body e3 with
      | nx e4 => rw [qb] at p4; exact fun σ5 Hb5 H5 w5 => ⟨Hb5, e4, w5, p4⟩
      | ct e4 => rw [qb] at p4; exact fun σ5 Hb5 H5 w5 => ⟨Hb5, e4, w5, p4⟩
      | brk e4 => rw [qb] at p4; exact p4
      | ret m e4 => rw [qb] at p4; exact p4
      | exc x e4 => rw [qb] at p4; exact p4
      | bad => rw [qb] at p4; exact p4
  · left
    have : ds.drop i = [] := List.drop_eq_nil_of_le (by omega)
    rw [this] at p2
    exact ⟨hstop (by omega), p2 σ2 Hb2 H2 w2⟩
/-! ### for k, v in d.items(): the dict is locked, and gone for good -/
def keyP : Key → PyData
  | .inl i => .int i
  | .inr x => .str x
def itemsD (kvs : KVs) : List PyData := kvs.map fun p => .tuple [keyP p.1, p.2]
theorem key_dpk {H : Hp} : ∀ k : Key, Dp K H (kV k) (keyP k)
  | .inl i => .int i
  | .inr x => .str x
def lockP (K : PySem.W.Frag) (a : Addr) (od : Obj) (ws : List (Key × V)) (kvs : KVs) : Addr → Hp → HO → Prop := fun b Hb u => b = a ∧ u = .frz od (.dK ws) ∧ KD K Hb ws kvs
theorem kd_get {Hb : Hp} : ∀ {ws : List (Key × V)} {kvs : KVs} {i : Nat} {k : Key} {v : V}, KD K Hb ws kvs → ws[i]? = some (k, v) → ∃ d, kvs[i]? = some (k, d) ∧ Dp K Hb v d
  | _, _, 0, k, v, .cons (b := q) r _, h => by
    cases h
    obtain ⟨r1, r2⟩ := r
    refine ⟨q.2, ?_, r2⟩
    show some q = some (k, q.2)
    rw [show k = q.1 from r1]
  | _, _, i + 1, k, v, .cons _ t, h => kd_get (i := i) t h
theorem walks_items {a : Addr} {od : Obj} {ws : List (Key × V)} {kvs : KVs} : Walks K (ItiN a od ws) (itemsD kvs) [(some (.ref a), .fl (.fact (lockP K a od ws kvs)))] := by
  intro Hb H es i o
  obtain ⟨f, r⟩ := own_head_app o
  obtain ⟨b, u, e1, e2, e3, e4, ⟨p1, p2, p3⟩, _⟩ := r
  cases e1
  subst p2
  have hl : (itemsD kvs).length = ws.length := by unfold itemsD; rw [List.length_map]; exact (Paired.length p3).symm
  refine ⟨fun d hd => ?_, fun hz => ⟨e4, by rw [← hl]; exact hz⟩⟩
  have hi : i < ws.length := by rw [← hl]; exact (List.getElem?_eq_some_iff.mp hd).1
  refine ⟨⟨e4, hi⟩, fun x H' hy => ?_⟩
  obtain ⟨T, k, v, ob, h1, rfl, hb3, h3, rfl⟩ := hy
  obtain ⟨dv, h4, h5⟩ := kd_get p3 h1
  have : d = .tuple [keyP k, dv] := by
    unfold itemsD at hd
    rw [List.getElem?_map, h4] at hd
    exact (Option.some.inj hd).symm
  subst this
  exact ⟨_, own_tup o hb3 h3 (.cons (key_dpk k) (.cons h5 .nil))⟩
theorem own_lock {Hb H : Hp} {a : Addr} {kvs : KVs} {es : List Ent} {od : Obj} {ws : List (Key × V)} (o : Own K Hb H ((some (.ref a), .dct kvs) :: es)) (hw : H a = some (.dK ws)) : Own K Hb (upd H a (.frz od (.dK ws))) ((some (.ref a), .fl (.fact (lockP K a od ws kvs))) :: es) := by
  refine o.swap fun f r => ?_
  obtain ⟨b, ys, e1, e2, e3, e4, e5⟩ := r
  cases e1
  have : ys = ws := by rw [hw] at e4; cases e4; rfl
  subst this
  refine ⟨[a], ⟨fun _ _ e => e, fun p u e n => ?_, fun p u e => ?_, fun p h1 h2 => absurd h1 h2⟩, ⟨a, _, rfl, rfl, e3, upd_same, ⟨rfl, rfl, e5⟩, fun H1 H2 s h => ⟨h.1, h.2.1, KD.same s h.2.2⟩⟩, fun p hp => .inl (by rw [e2]; exact hp)⟩
  · rw [upd_ne (fun z => n (by rw [z, e2]; simp))]; exact e
  · rw [upd_ne (fun z => by rw [z, e3] at e; cases e)]; exact o.1 _ _ e
theorem own_unlock {Hb H : Hp} {a : Addr} {kvs : KVs} {es : List Ent} {od : Obj} {ws : List (Key × V)} (o : Own K Hb H ((some (.ref a), .fl (.fact (lockP K a od ws kvs))) :: es)) : H a = some (.frz od (.dK ws)) ∧ Own K Hb (upd H a (.dK ws)) ((some (.ref a), .dct kvs) :: es) := by
  obtain ⟨f, r⟩ := o.head
  obtain ⟨b, u, e1, e2, e3, e4, ⟨p1, p2, p3⟩, _⟩ := r
  cases e1
  subst p2
  refine ⟨e4, o.swap fun f r => ?_⟩
  obtain ⟨b, u, e1, e2, e3, e4', ⟨p1, p2, p3⟩, _⟩ := r
  cases e1
  refine ⟨[a], ⟨fun _ _ e => e, fun p u e n => ?_, fun p u e => ?_, fun p h1 h2 => absurd h1 h2⟩, ⟨a, ws, rfl, rfl, e3, upd_same, p3⟩, fun p hp => .inl (by rw [e2]; exact hp)⟩
  · rw [upd_ne (fun z => n (by rw [z, e2]; simp))]; exact e
  · rw [upd_ne (fun z => by rw [z, e3] at e; cases e)]; exact o.1 _ _ e
def lockEnds (a : Addr) (od : Obj) (u : HO) (D : Ends) : Ends := ⟨fun σ' H' => H' a = some (.frz od u) ∧ D.nx σ' (upd H' a u), fun v H' => H' a = some (.frz od u) ∧ D.rt v (upd H' a u), fun σ' H' => H' a = some (.frz od u) ∧ D.bk σ' (upd H' a u), fun σ' H' => H' a = some (.frz od u) ∧ D.ct σ' (upd H' a u)⟩
theorem post_lock {vs : List V} {fr : List Ent} {D : Ends} {r : RS} {a : Addr} {od : Obj} {ws : List (Key × V)} {kvs : KVs} (h : PostS K E vs fr D r) : PostS K E vs ([(some (.ref a), .fl (.fact (lockP K a od ws kvs)))] ++ fr) (lockEnds a od (.dK ws) D) r := by
  have key : ∀ {Hb H : Hp} {σ : L2.St} {e : Env} {fr : List Ent}, Wld K Hb H σ vs e ((some (.ref a), .fl (.fact (lockP K a od ws kvs))) :: fr) → H a = some (.frz od (.dK ws)) ∧ Wld K Hb (upd H a (.dK ws)) σ vs e fr := fun w => by
    obtain ⟨h1, h2⟩ := own_unlock w.front
    exact ⟨h1, (w.drop1.back h2).drop1⟩
  cases r with
  | nx e => exact fun σ Hb H w => let ⟨h1, h2⟩ := key w; ⟨h1, h σ Hb _ h2⟩
  | ret m e => exact fun v σ Hb H w => let ⟨h1, h2⟩ := key (w.perm (List.Perm.swap _ _ _)); ⟨h1, h v σ Hb _ h2⟩
  | exc x e => exact fun c d σ Hb H w hx => h c d σ Hb H w.drop1 hx
  | brk e => exact fun σ Hb H w => let ⟨h1, h2⟩ := key w; ⟨h1, h σ Hb _ h2⟩
  | ct e => exact fun σ Hb H w => let ⟨h1, h2⟩ := key w; ⟨h1, h σ Hb _ h2⟩
  | bad => exact h
def cItems (i : Nat) (g : DG) (body : DS) : DS := fun e => match dctOf (e.get i) with
  | some kvs => forD g body (itemsD kvs) (e.put i .hole)
  | none => .bad
theorem ss_items {i : Nat} {g : TG} {tb : TS} {dg : DG} {body : DS} (hg : SimG K g dg) (hb : SimS K E tb body) : SimS K E (tLock (tFor (iItemsN (tVar i)) g tb)) (cItems i dg body) := by
  intro σ vs Hb H e fr D w hq
  have h0 : PostS K E vs fr D (match dctOf (e.get i) with
    | some kvs => forD dg body (itemsD kvs) (e.put i .hole)
    | none => .bad) := hq
  cases qd : dctOf (e.get i) with
  | none => rw [qd] at h0; exact h0.elim
  | some kvs =>
    rw [qd] at h0
    have eg := dctOf_inv qd
    obtain ⟨u, hu, w2⟩ := w.take (i := i) (by rw [eg]; rfl)
    rw [eg] at w2
    obtain ⟨f, a, ws, rfl, _, _, r4, r5⟩ := w2.front.head
    refine ⟨a, .dK ws, r4, True.intro, fun od => ?_⟩
    refine ⟨_, hu, a, od, ws, rfl, upd_same, ?_⟩
    have w3 : Wld K Hb (upd H a (.frz od (.dK ws))) σ vs (e.put i .hole) ((some (.ref a), .fl (.fact (lockP K a od ws kvs))) :: fr) := w2.drop1.back (own_lock w2.front r4)
    exact for_run (X := [(some (.ref a), .fl (.fact (lockP K a od ws kvs)))]) (D := lockEnds a od (.dK ws) D) hg hb walks_items w3 (post_lock h0)
/-! ### sum(d.values()) -/
def intsD : List PyData → Option (List Int)
  | [] => some []
  | .int i :: ds => (intsD ds).map (i :: ·)
  | _ => none
end
end Sm

/-! SimV: sum of a dict's values, dicts in fields. -/
namespace Sm
open PySem PySem.Spec PyProof.Rows L2
def tSumVals (td : TE) : TE := fun σ H Q => td σ H fun x H1 => ∃ a kvs is, x = V.ref a ∧ H1 a = some (.dK kvs) ∧ kvs.map (·.2) = (is : List Int).map V.int ∧ Q (.int is.sum) H1
theorem preSum_getD (is : List Int) : ∀ n, n ≤ is.length → preSum (fun i => is.getD i 0) n = (is.take n).sum
  | 0, _ => by simp [preSum]
  | n + 1, h => by
    have hn : n < is.length := h
    rw [preSum, preSum_getD is n (Nat.le_of_succ_le h), List.take_succ, List.getElem?_eq_getElem hn, List.sum_append, List.getD_eq_getElem?_getD, List.getElem?_eq_getElem hn]
    simp
section
variable {X : Cx} {o : Expr} {p pos apos mpos : Pos} {td : TE}
theorem pe_sumVals (hc : X.calm = true) (hg : Gl X "sum") (hm : X.mg "sum" = none) (hd : PE X o td) (hbase : attributeBase o "values" X.env (eval o X.env) = eval o X.env := by rfl) (hline : (apos.endLine == mpos.line) = true := by rfl)
    (hse : starEach [Expr.Call (.Attribute o "values" apos) [] [] mpos] X.env = [(false, eval (Expr.Call (.Attribute o "values" apos) [] [] mpos) X.env)] := by rfl) :
    PE X (.Call (.Name "sum" p) [.Call (.Attribute o "values" apos) [] [] mpos] [] pos) (tSumVals td) := by
  refine ⟨fun pins s σ H Q I h => ?_⟩
  refine wpAny_Call_Name_kw (ld_blt I hg hm (u := .builtin "sum") (by first | rfl | decide +kernel) ?_ (by first | decide +kernel | decide) (by first | decide +kernel | decide))
  rw [hse]
  refine PySem.callWith_builtin1 (wpAny_Call_method0_late hbase hline (thn (hd.run pins s σ H _ I h) fun v s1 ⟨x, H1, I1, r1, a, kvs, is, ex, ha, hv, q⟩ => ?_))
  subst ex
  obtain rfl : v = Value.ref a := r1
  obtain ⟨_, hsys, vs, rel, dof⟩ := dk_of I1.hok ha
  obtain ⟨ep, dat⟩ := dof.dictAt
  have dat' := dat
  obtain ⟨ob, es, ho, ex, hdat, hko, hpr, hnd⟩ := dat'
  refine ⟨"dict", "dict.values", F.plainAttrs_dict, F.slot_dict_values, F.type_dict_values, ⟨ob, ho, ex.1⟩, fun b e => ?_, Calls.callWith_builtin rfl (PySem.evalArgs_none ?_)⟩
  · cases e
    exact ⟨ob, ho, ex.2.1⟩
  refine call_meetsIn F.slot_dict_values ⟨ob, ho, ex.1⟩ F.entry_dict_values (F.args_dict_values_1 _) (meets_dict_values (mixKind X.prog X.w) a hsys) ⟨⟨vs, dof⟩, ?_⟩
  have k1 : ∀ b u, s1.heap.get? b = some u → (s1.heap.push { cls := .type "dict_values", data := .fields #[.ref a] }).get? b = some u := fun b u e => Heap.get?_push_of_some _ e
  have dat1 : (s1.heap.push { cls := .type "dict_values", data := .fields #[.ref a] }).DictAt (mixKind X.prog X.w) a vs ep := dat.keep k1
  have hlv : vs.length = is.length := by
    have e1 := congrArg List.length hv
    rw [List.length_map, List.length_map] at e1
    rw [← e1]
    exact (KV.length rel).symm
  have hval : ∀ (i : Nat) (v : Value), (∃ k, vs[i]? = some (k, v)) → ∃ t, v = Value.int (is.getD i 0) t := fun i v ⟨k, hk⟩ => by
    obtain ⟨x, h1, h2⟩ := KV.at' rel hk
    have e1 : (kvs.map (·.2))[i]? = some x := by rw [List.getElem?_map, h1] <;> rfl
    rw [hv, List.getElem?_map] at e1
    obtain ⟨j, hj, e2⟩ := Option.map_eq_some_iff.mp e1
    subst e2
    obtain ⟨t, e3⟩ := h2
    refine ⟨t, ?_⟩
    rw [e3, List.getD_eq_getElem?_getD, hj] <;> rfl
  refine call_sum_walkAnyS (wpAny_pyIter_values (v := s1.heap.objs.size) (d := a) ⟨_, Heap.get?_push_size _ rfl, rfl, rfl⟩ dat1 ?_)
  have hlt : a < s1.heap.objs.size := Heap.lt_size ho
  have hsz : (s1.heap.push { cls := .type "dict_values", data := .fields #[.ref a] }).objs.size = s1.heap.objs.size + 1 := Heap.size_push _ _
  refine ⟨_, _, _, _, _, _, _, _, rfl, (Walks.dictValues (knd := mixKind X.prog X.w) (A := X.A.in1) (I.ok.hd hc) (s1.heap.push { cls := .type "dict_values", data := .fields #[.ref a] }).objs.size a (by rw [hsz]; exact Nat.ne_of_lt (Nat.lt_succ_of_lt hlt)) vs ep).toS,
    ⟨⟨_, Heap.get?_push_size _ rfl, rfl, rfl⟩, dat1.keep fun b u e => Heap.get?_push_of_some _ e⟩, fun b hb => ?_, hval, fun s' t' hm => ?_⟩
  · show b < ((s1.heap.push _).push _).objs.size
    rw [Heap.size_push, Heap.size_push]
    rw [hsz] at hb
    rcases List.mem_cons.mp hb with e | hb
    · rw [e]
      exact Nat.lt_succ_self _
    · have e : b = a := List.mem_singleton.mp hb
      rw [e]
      exact Nat.lt_succ_of_lt (Nat.lt_succ_of_lt hlt)
  · rw [Moved.eq_with hm]
    have hs : preSum (fun i => is.getD i 0) vs.length = is.sum := by rw [hlv, preSum_getD is _ (Nat.le_refl _), List.take_length]
    refine ⟨.int is.sum, H1, I1.kept (t' := s'.toks) fun b u e => hm.heap b u (fun hmem => ?_) (Heap.get?_push_of_some _ (k1 b u e)), ⟨t', by rw [hs]⟩, q⟩
    have e1 : b = (s1.heap.push { cls := .type "dict_values", data := .fields #[.ref a] }).objs.size := List.mem_singleton.mp hmem
    have e2 := Heap.lt_size e
    rw [hsz] at e1
    rw [e1] at e2
    exact absurd e2 (Nat.not_lt.mpr (Nat.le_succ _))
end
section
variable {K : PySem.W.Frag} {E : XK}
theorem kd_ints {Hb : Hp} : ∀ {ws : List (Key × V)} {kvs : KVs} {is : List Int}, KD K Hb ws kvs → intsOf (kvs.map (·.2)) = some is → ws.map (·.2) = is.map V.int := by
  intro ws kvs is h1 h2
  have h3 : DpAll K Hb (ws.map (·.2)) (kvs.map (·.2)) := by
    clear h2
    induction h1 with
    | nil => exact .nil
    | cons r _ ih => exact .cons r.2 ih
  exact ints_dp h3 h2
def cSumV (d : DE) : DE := fun e => (d e).bind fun m e1 => match (dctOf m).bind fun kvs => intsOf (kvs.map (·.2)) with
  | some is => .ok (.val (.int is.sum)) e1
  | none => .bad
theorem se_sumV {t : TE} {d : DE} (h : SimE K E t d) : SimE K E (tSumVals t) (cSumV d) := by
  intro σ vs Hb H e fr Q w hq
  have h0 : PostE K E σ vs fr Q ((d e).bind fun m e1 => match (dctOf m).bind fun kvs => intsOf (kvs.map (·.2)) with
    | some is => .ok (.val (.int is.sum)) e1
    | none => .bad) := hq
  refine h.run w (fun m e1 q v Hb1 H1 w1 => ?_) (fun x e1 q => by rw [q] at h0; exact h0) fun q => by rw [q] at h0; exact h0
  rw [q] at h0
  have h1 : PostE K E σ vs fr Q (match (dctOf m).bind fun kvs => intsOf (kvs.map (·.2)) with
    | some is => .ok (.val (.int is.sum)) e1
    | none => .bad) := h0
  cases qd : (dctOf m).bind fun kvs => intsOf (kvs.map (·.2)) with
  | none => rw [qd] at h1; exact h1.elim
  | some is =>
    rw [qd] at h1
    obtain ⟨kvs, h2, h3⟩ := Option.bind_eq_some_iff.mp qd
    have := dctOf_inv h2
    subst this
    obtain ⟨f, a, ws, rfl, _, r3, r4, r5⟩ := w1.front.head
    exact ⟨a, ws, is, rfl, r4, kd_ints r5 h3, h1 _ Hb1 H1 (w1.drop1.back (w1.drop1.own.val (.int _)))⟩
/-! ### o.f[k] = e -/
theorem rfs_dput {Hb H : Hp} {f : Str} {k : Key} {v : V} {y : PyData} {kvs : KVs} {fs : List (Str × Fl)} {ws : List (Str × V)} {F : List Addr} (s : Same Hb H) (rv : Dp K Hb v y) (h : RFs K Hb H ws fs F) (hl : fs.lookup f = some (.dct kvs)) :
    ∃ b u, ws.lookup f = some (.ref b) ∧ b ∈ F ∧ Hb b = none ∧ H b = some (.dK u) ∧ KD K Hb u kvs ∧ RFs K Hb (upd H b (.dK (putK u k v))) ws (putFl f (.dct (putD kvs k y)) fs) F := by
  induction h with
  | nil => cases hl
  | @cons n v0 x ws fs fp g r t d ih =>
    by_cases c : f = n
    · subst c
      have hx : x = .dct kvs := by simpa [List.lookup] using hl
      subst hx
      obtain ⟨b, u, rfl, rfl, e3, e4, e5⟩ := r
      refine ⟨b, u, by simp [List.lookup], by simp, e3, e4, e5, ?_⟩
      have e2 : putFl f (.dct (putD kvs k y)) ((f, .dct kvs) :: fs) = (f, .dct (putD kvs k y)) :: fs := by show (if f = f then _ else _) = _; rw [if_pos rfl]
      rw [e2]
      have hk : Keep [b] Hb H Hb (upd H b (.dK (putK u k v))) := ⟨fun _ _ e => e, fun p o e n => by rw [upd_ne (by simpa using n)]; exact e, fun p o e => by
        rw [upd_ne (fun z => by rw [z, e3] at e; cases e)]; exact s _ _ e, fun _ h1 h2 => absurd h1 h2⟩
      exact .cons ⟨b, _, rfl, rfl, e3, upd_same, kd_put e5 rv⟩ (t.keep hk d) d
    · have c' : (f == n) = false := by simpa using c
      have hl' : fs.lookup f = some (.dct kvs) := by simpa only [List.lookup, c'] using hl
      obtain ⟨b, u, h1, h2, h3, h4, h5, h6⟩ := ih hl'
      refine ⟨b, u, by simpa only [List.lookup, c'] using h1, List.mem_append_right _ h2, h3, h4, h5, ?_⟩
      have e2 : putFl f (.dct (putD kvs k y)) ((n, x) :: fs) = (n, x) :: putFl f (.dct (putD kvs k y)) fs := by show (if n = f then _ else _) = _; rw [if_neg (fun z => c z.symm)]
      rw [e2]
      have hk : Keep [b] Hb H Hb (upd H b (.dK (putK u k v))) := ⟨fun _ _ e => e, fun p o e n => by rw [upd_ne (by simpa using n)]; exact e, fun p o e => by
        rw [upd_ne (fun z => by rw [z, h3] at e; cases e)]; exact s _ _ e, fun _ h1 h2 => absurd h1 h2⟩
      refine .cons (r.keep hk fun p hp hq => ?_) h6 d
      have : p = b := by simpa using hp
      subst this; exact d p hq h2
theorem own_dputF {Hb H : Hp} {a : V} {C : Addr} {f : Str} {k : Key} {v : V} {y : PyData} {kvs : KVs} {fs : List (Str × Fl)} {es : List Ent} (o : Own K Hb H ((some a, .ins C fs) :: es)) (rv : Dp K Hb v y) (hl : fs.lookup f = some (.dct kvs)) :
    ∃ p dx ws b u, a = .ref p ∧ H p = some (.ins C dx ws) ∧ ws.lookup f = some (.ref b) ∧ H b = some (.dK u) ∧ KD K Hb u kvs ∧ Own K Hb (upd H b (.dK (putK u k v))) ((some a, .ins C (putFl f (.dct (putD kvs k y)) fs)) :: es) := by
  obtain ⟨g0, p, dx, ws, g, rfl, rfl, e3, e4, e5, e6⟩ := o.head
  obtain ⟨b, u, h1, h2, h3, h4, h5, h6⟩ := rfs_dput (k := k) o.1 rv e5 hl
  refine ⟨p, dx, ws, b, u, rfl, e4, h1, h4, h5, o.swap fun F r => ?_⟩
  obtain ⟨p', dx', ws', g', e1', rfl, e3', e4', e5', e6'⟩ := r
  cases e1'
  rw [e4] at e4'
  cases e4'
  obtain ⟨b', u', h1', h2', h3', h4', h5', h6'⟩ := rfs_dput (k := k) o.1 rv e5' hl
  rw [h1] at h1'
  cases h1'
  rw [h4] at h4'
  cases h4'
  have nb : p ≠ b := fun z => by subst z; exact e6' h2'
  refine ⟨p :: g', ⟨fun _ _ e => e, fun q o e n => ?_, fun q o' e => ?_, fun q h1 h2 => absurd h1 h2⟩, ⟨p, dx, ws, g', rfl, rfl, e3, ?_, h6', e6'⟩, fun q hq => .inl hq⟩
  · rw [upd_ne (fun z => n (by rw [z]; exact List.mem_cons_of_mem _ h2'))]; exact e
  · rw [upd_ne (fun z => by rw [z, h3] at e; cases e)]; exact o.1 _ _ e
  · rw [upd_ne nb]; exact e4
def dputFM (C : Addr) (f : Str) (n c m : M) : Option M := (keyM n).bind fun q => match c with
  | .ins D fs => (match fs.lookup f with
    | some (.dct kvs) => (valOf m).bind fun y => if D = C ∧ kvs.length < 16777216 then some (.ins D (putFl f (.dct (putD kvs q y)) fs)) else none
    | _ => none)
  | _ => none
theorem dputFM_inv {C : Addr} {f : Str} {n c m r : M} (h : dputFM C f n c m = some r) : ∃ q fs kvs y, keyM n = some q ∧ c = .ins C fs ∧ fs.lookup f = some (.dct kvs) ∧ m = .val y ∧ kvs.length < 16777216 ∧ r = .ins C (putFl f (.dct (putD kvs q y)) fs) := by
  obtain ⟨q, h1, h⟩ := Option.bind_eq_some_iff.mp h
  cases c with
  | fl x => cases h
  | ins D fs =>
    dsimp only at h
    split at h
    · rename_i kvs hk
      obtain ⟨y, h3, h⟩ := Option.bind_eq_some_iff.mp h
      split at h
      · rename_i hd
        cases h
        obtain ⟨rfl, hz⟩ := hd
        exact ⟨q, fs, kvs, y, h1, rfl, hk, valOf_inv h3, hz, rfl⟩
      · cases h
    · cases h
/-- the key is a name -/
def cDPutF (C : Addr) (i : Nat) (f : Str) (d : DE) (j : Nat) : DS := fun e => (d e).toS fun m e1 => match dputFM C f (e1.get j) (e1.get i) m with
  | some z => .nx (e1.put i z)
  | none => .bad
theorem ss_dputF {C : Addr} {i j : Nat} {f : Str} {tv : TE} {d : DE} (c : Cls K C) (nf : NoAttr K C f) (h : SimE K E tv d) : SimS K E (sDPut (tFld K (tVar i) f) (tVar j) tv) (cDPutF C i f d j) := by
  intro σ vs Hb H e fr D w hq
  refine toS_run (k := fun m e1 => match dputFM C f (e1.get j) (e1.get i) m with
    | some z => .nx (e1.put i z)
    | none => .bad) h w hq fun m e1 v Hb1 H1 w1 p => ?_
  cases qm : dputFM C f (e1.get j) (e1.get i) m with
  | none => rw [qm] at p; exact p.elim
  | some z =>
    rw [qm] at p
    obtain ⟨kk, fs, kvs, y, qk, eg, hl, rfl, hlen, rfl⟩ := dputFM_inv qm
    obtain ⟨dd, ej, hkk⟩ := keyM_inv qk
    obtain ⟨uj, huj, fj, rj⟩ := w1.slot (i := j) (by rw [ej]; rfl)
    rw [ej] at rj
    have ev := key_dp rj.2 hkk
    subst ev
    obtain ⟨fv, rv⟩ := w1.front.head
    have hh : (e1.get i).isHole = false := by rw [eg]; rfl
    obtain ⟨u, hu, w4⟩ := w1.take hh
    rw [eg] at w4
    obtain ⟨p', dx, ws, b, kv, rfl, o1, o2, o3, o4, o5⟩ := own_dputF (k := kk) w4.front rv.2 hl
    refine ⟨_, hu, p', C, dx, ws, _, rfl, o1, c, nf, o2, _, huj, b, _, rfl, DPut.k o3 (by rw [kd_len o4, sizeLine_eq]; exact hlen), p σ Hb1 _ ?_⟩
    have w5 : Wld K Hb1 (upd H1 b (.dK (putK kv kk v))) σ vs (e1.put i .hole) ((some (.ref p'), .ins C (putFl f (.dct (putD kvs kk y)) fs)) :: (some v, .val y) :: fr) := w4.drop1.back o5
    have w6 := (w5.perm (List.Perm.swap _ _ _)).drop1.put (i := i) hu
    rw [put_put hh] at w6
    exact w6
end
end Sm

/-! SimC: dict comprehensions. -/
namespace Sm
open PySem PySem.Spec PyProof.Rows L2
def dputK (n m : M) (acc : KVs) : Option KVs := (keyM n).bind fun q => (valOf m).bind fun y => if acc.length < 16777216 then some (putD acc q y) else none
theorem dputK_inv {n m : M} {acc r : KVs} (h : dputK n m acc = some r) : ∃ q y, keyM n = some q ∧ m = .val y ∧ acc.length < 16777216 ∧ r = putD acc q y := by
  obtain ⟨q, h1, h⟩ := Option.bind_eq_some_iff.mp h
  obtain ⟨y, h3, h⟩ := Option.bind_eq_some_iff.mp h
  split at h
  · rename_i hd
    cases h
    exact ⟨q, y, h1, valOf_inv h3, hd, rfl⟩
  · cases h
def dcD (g : DG) (tst : DT) (ke ve : DE) (own : List Nat) : List PyData → Env → KVs → RE KVs
  | [], e, acc => .ok acc e
  | d :: ds, e, acc => match g d e with
    | none => .bad
    | some e1 => match tst e1 with
      | .ok true e2 => (match ke e2 with
        | .ok n e3 => (match ve e3 with
          | .ok m e4 => (match dputK n m acc with
            | some acc' => dcD g tst ke ve own ds (e4.wipe own) acc'
            | none => .bad)
          | _ => .bad)
        | _ => .bad)
      | .ok false e2 => dcD g tst ke ve own ds (e2.wipe own) acc
      | _ => .bad
def cDc (it : DI) (g : DG) (tst : DT) (ke ve : DE) (own : List Nat) : DE := fun e => (it e).bind fun ds e1 => match decide (own.Nodup ∧ ∀ v ∈ own, v < e1.s.length) with
  | true => (match dcD g tst ke ve own ds (e1.wipe own) [] with
    | .ok acc e2 => .ok (.dct acc) (e2.rest e1 own)
    | _ => .bad)
  | false => .bad
theorem dcD_cons {g : DG} {tst : DT} {ke ve : DE} {own : List Nat} {d : PyData} {ds : List PyData} {e : Env} {acc : KVs} : dcD g tst ke ve own (d :: ds) e acc = (match g d e with
    | none => .bad
    | some e1 => match tst e1 with
      | .ok true e2 => (match ke e2 with
        | .ok n e3 => (match ve e3 with
          | .ok m e4 => (match dputK n m acc with
            | some acc' => dcD g tst ke ve own ds (e4.wipe own) acc'
            | none => .bad)
          | _ => .bad)
        | _ => .bad)
      | .ok false e2 => dcD g tst ke ve own ds (e2.wipe own) acc
      | _ => .bad) := rfl
section
variable {K : PySem.W.Frag} {E : XK}
theorem se_dc {wi : TI} {g : TG} {tt : TT} {tk tv : TE} {it : DI} {dg : DG} {tst : DT} {ke ve : DE} {own : List Nat} (hi : SimI K E wi it) (hg : SimGo K own g dg) (ht : SimT K E0 tt tst) (hk : SimE K E0 tk ke) (he : SimE K E0 tv ve) : SimE K E (tDc wi g tt tk tv own) (cDc it dg tst ke ve own) := by
  intro σ vs Hb H e fr Q w hq
  have h0 : PostE K E σ vs fr Q ((it e).bind fun ds e1 => match decide (own.Nodup ∧ ∀ v ∈ own, v < e1.s.length) with
    | true => (match dcD dg tst ke ve own ds (e1.wipe own) [] with
      | .ok acc e2 => .ok (.dct acc) (e2.rest e1 own)
      | _ => .bad)
    | false => .bad) := hq
  refine hi σ vs Hb H e fr _ w ?_
  cases q : it e with
  | bad => rw [q] at h0; exact h0.elim
  | exc x e1 => rw [q] at h0; exact h0
  | ok ds e1 =>
    rw [q] at h0
    intro J X Hb1 H1 hJ w1 D hD
    have h1 : PostE K E σ vs fr Q (match decide (own.Nodup ∧ ∀ v ∈ own, v < e1.s.length) with
      | true => (match dcD dg tst ke ve own ds (e1.wipe own) [] with
        | .ok acc e2 => .ok (.dct acc) (e2.rest e1 own)
        | _ => .bad)
      | false => .bad) := h0
    cases qd : decide (own.Nodup ∧ ∀ v ∈ own, v < e1.s.length) with
    | false => rw [qd] at h1; exact h1.elim
    | true =>
      rw [qd] at h1
      obtain ⟨hnd, hlt⟩ := of_decide_eq_true qd
      have hlt' : ∀ v ∈ own, v < σ.length := fun v hv => by rw [w1.ls]; exact hlt v hv
      have h2 : PostE K E σ vs fr Q (match dcD dg tst ke ve own ds (e1.wipe own) [] with
        | .ok acc e2 => .ok (.dct acc) (e2.rest e1 own)
        | _ => .bad) := h1
      have hb0 := w1.bor
      have hl0 := w1.ls
      generalize hS : saved σ e1.s own = S
      have ww := wipe_w w1 own hlt'
      rw [hS] at ww
      have hDH : Own K Hb1 (upd H1 D (.dK [])) ((some (.ref D), .dct []) :: (e1.wipe own).ents (wipe σ own) vs (S ++ (X ++ fr))) := own_dct ww.own hD .nil
      have w3 : Wld K Hb1 (upd H1 D (.dK [])) (wipe σ own) vs (e1.wipe own) ((some (.ref D), .dct []) :: (S ++ (X ++ fr))) := ww.back hDH
      refine ⟨fun i m H => m = ds.length - i ∧ i ≤ ds.length ∧ ∃ Hb e acc, Wld K Hb H (wipe σ own) vs e ((some (.ref D), .dct acc) :: (S ++ (X ++ fr))) ∧ PostE K E σ vs fr Q (match dcD dg tst ke ve own (ds.drop i) e acc with
        | .ok acc e2 => .ok (.dct acc) (e2.rest e1 own)
        | _ => .bad), ⟨ds.length, by simp, Nat.zero_le _, Hb1, e1.wipe own, [], w3, by simpa using h2⟩, ?_⟩
      rintro i m H2 ⟨rfl, hi2, Hb2, e2, acc, w2, p2⟩
      have pm : ((some (.ref D), M.dct acc) :: (S ++ (X ++ fr))).Perm (X ++ ((some (.ref D), M.dct acc) :: (S ++ fr))) := by
        refine List.Perm.trans ?_ List.perm_middle.symm
        refine List.Perm.cons _ ?_
        rw [← List.append_assoc, ← List.append_assoc]
        exact List.Perm.append_right _ List.perm_append_comm
      have w2' := w2.perm pm
      have o2 : Own K Hb2 H2 (X ++ (e2.ents (wipe σ own) vs ((some (.ref D), .dct acc) :: (S ++ fr)))) := w2'.own.perm (ents_app e2 _ vs X _).symm
      obtain ⟨hgo, hstop⟩ := hJ Hb2 H2 _ i o2
      by_cases hlt2 : i < ds.length
      · right
        have hd : ds[i]? = some ds[i] := List.getElem?_eq_getElem hlt2
        obtain ⟨g3, g4⟩ := hgo _ hd
        have hdrop : ds.drop i = ds[i] :: ds.drop (i + 1) := List.drop_eq_getElem_cons hlt2
        rw [hdrop, dcD_cons] at p2
        refine ⟨g3, fun H => ∃ Hb e acc, Wld K Hb H (wipe σ own) vs e ((some (.ref D), .dct acc) :: (S ++ (X ++ fr))) ∧ PostE K E σ vs fr Q (match dcD dg tst ke ve own (ds.drop (i + 1)) e acc with
          | .ok acc e2 => .ok (.dct acc) (e2.rest e1 own)
          | _ => .bad), fun H' hN => ⟨ds.length - (i + 1), by omega, rfl, hlt2, hN⟩, fun x H' hy => ?_⟩
        obtain ⟨Hb3, o3⟩ := g4 x H' hy
        have w0 : Wld K Hb3 H' (wipe σ own) vs e2 (X ++ ((some (.ref D), .dct acc) :: (S ++ fr))) := w2.fr1 (o3.tail.perm (ents_app e2 _ vs X _))
        have w4 : Wld K Hb3 H' (wipe σ own) vs e2 ((some x, .val ds[i]) :: (X ++ ((some (.ref D), .dct acc) :: (S ++ fr)))) := w0.back (o3.perm (List.Perm.cons _ (ents_app e2 _ vs X _)))
        cases qg : dg ds[i] e2 with
        | none => rw [qg] at p2; exact p2.elim
        | some e3 =>
          rw [qg] at p2
          refine hg _ vs Hb3 H' e2 _ x _ _ w4 ⟨e3, qg, fun σ' Hb' H'' hw w5 => ?_⟩
          rw [wipe_idem] at hw
          refine ⟨hw, ?_⟩
          have hl5 : ∀ v ∈ own, v < σ'.length := fun v hv => by
            have := congrArg List.length hw
            rw [wipe_length, wipe_length] at this
            rw [this]; exact hlt' v hv
          refine ht.run w5 (fun b e4 qt Hb5 H5 w6 => ?_) (fun x e4 qt => by dsimp only at p2; rw [qt] at p2; exact p2.elim) (fun qt => by dsimp only at p2; rw [qt] at p2; exact p2.elim)
          dsimp only at p2
          rw [qt] at p2
          cases b with
          | false =>
            refine iteF ?_
            have w7 := (w6.again (σ := σ) hl5 hw)
            exact ⟨Hb5, e4.wipe own, acc, w7.perm pm.symm, p2⟩
          | true =>
            refine iteT ?_
            dsimp only at p2
            refine hk.run w6 (fun n e5 qk u Hb6 H6 w7 => ?_) (fun x e5 qk => by rw [qk] at p2; exact p2.elim) (fun qk => by rw [qk] at p2; exact p2.elim)
            rw [qk] at p2
            dsimp only at p2
            refine he.run w7 (fun m e6 qe z Hb7 H7 w8 => ?_) (fun x e6 qe => by rw [qe] at p2; exact p2.elim) (fun qe => by rw [qe] at p2; exact p2.elim)
            rw [qe] at p2
            dsimp only at p2
            cases ql : dputK n m acc with
            | none => rw [ql] at p2; exact p2.elim
            | some acc' =>
              rw [ql] at p2
              obtain ⟨kk, y, hk1, rfl, hz, rfl⟩ := dputK_inv ql
              obtain ⟨dd, rfl, hkk⟩ := keyM_inv hk1
              obtain ⟨f, ru⟩ := w8.front.head
              obtain ⟨f2, ru2⟩ := w8.drop1.front.head
              have ev := key_dp ru2.2 hkk
              subst ev
              have w9 := w8.drop1.drop1.perm pm.symm
              have o8 := w9.front
              obtain ⟨_, a, ws, ea, _, r3, r4, r5⟩ := o8.head
              cases ea
              refine ⟨ws, kk, rfl, r4, by rw [kd_len r5, sizeLine_eq]; exact hz, ?_⟩
              have o9 := own_dput o8 (kd_put (k := kk) r5 ru.2)
              have w10 : Wld K Hb7 (upd H7 D (.dK (putK ws kk z))) σ' vs e6 ((some (.ref D), .dct (putD acc kk y)) :: (S ++ (X ++ fr))) := w9.drop1.back o9
              exact ⟨Hb7, e6.wipe own, putD acc kk y, w10.again hl5 hw, p2⟩
      · left
        have hnil : ds.drop i = [] := List.drop_eq_nil_of_le (by omega)
        rw [hnil] at p2
        refine ⟨hstop (by omega), p2 (.ref D) Hb2 H2 ?_⟩
        have w5 : Wld K Hb2 H2 (wipe σ own) vs e2 (saved σ e1.s own ++ ((some (.ref D), .dct acc) :: fr)) := by
          rw [hS]
          refine Wld.drop (es := X) (w2'.perm ?_)
          refine List.Perm.append_left X ?_
          exact List.perm_middle.symm
        exact rest_w hb0 hl0 own e2 hnd hlt' w5
end
end Sm

/-! SetDc: name = {dict comprehension}, the name a fast one. -/
namespace Sm
open PySem PySem.Spec PyProof.Rows L2
theorem sw_trueD {kx vx : Expr} {gs : List Comprehension} {scope : Scope} {pos py : Pos} {y : Str} {l : Nat} {env : PySem.Env} (hk : env.scope.kind = .function) (hy : env.scope.names.lookup y = some .local) (hl : (py.line == pos.line) = true)
    (ha : (scope.names.any fun (n, k) => n == y && (k == .local || k == .cell)) = false) : swapsWith (.DictComp kx vx gs scope pos) (some (.Name y py)) l env = pure true := by
  have ky : env.kindOf y = some .local := hy
  have hb : env.blockKind = .function := by unfold PySem.Env.blockKind; rw [hk]; rfl
  unfold swapsWith
  simp only [hb, ky, ha, Expr.pos, hl]
  rfl
section
variable {X : Cx}
theorem ps_setDc {i : Nat} {y : Str} {py : Pos} {kx vx tg iter : Expr} {ifs : List Expr} {scope : Scope} {own : List (Str × Nat)} {pos spos : Pos} {wi : TI} {g : TG} {tt : TT} {tk tv : TE} (hc : X.calm = true) (hN : X.N.Nodup) (hy : X.N[i]? = some y) (hyl : X.env.scope.names.lookup y = some .local)
    (hsw : swapsWith (.DictComp kx vx [⟨tg, iter, ifs, 0⟩] scope pos) (some (.Name y py)) spos.line X.env = pure true) (hi : PI X tg iter wi) (ok : BlkOk X.N X.env.scope scope own)
    (hg : ∀ (s : Shared) (H : Hp) (C : Addr) (cl : List (Str × Addr)) (fp : List Addr), PG (X.blk s H scope (compEnvC scope cl C X.env) fp) tg g) (ht : ∀ (s : Shared) (H : Hp) (C : Addr) (cl : List (Str × Addr)) (fp : List Addr), PTs (X.blk s H scope (compEnvC scope cl C X.env) fp) ifs tt)
    (hk : ∀ (s : Shared) (H : Hp) (C : Addr) (cl : List (Str × Addr)) (fp : List Addr), PE (X.blk s H scope (compEnvC scope cl C X.env) fp) kx tk)
    (he : ∀ (s : Shared) (H : Hp) (C : Addr) (cl : List (Str × Addr)) (fp : List Addr), PE (X.blk s H scope (compEnvC scope cl C X.env) fp) vx tv) (hs : ∀ x, foldedSetIterable iter X.env x = pure x := by intro _; rfl) :
    PS X (.Assign [.Name y py] (.DictComp kx vx [⟨tg, iter, ifs, 0⟩] scope pos) spos) (tAsg (tDc wi g tt tk tv (own.map (·.2))) (gName i)) := by
  refine ⟨fun pins s σ H D I h => ?_⟩
  rw [exec_Assign_Name_used _ _ _ _ hsw]
  refine wpAny_bind (wpAny_standAt (wpAny_bind ?_))
  show wpAny _ X.A (do let _ ← comprehension (.DictComp kx vx [⟨tg, iter, ifs, 0⟩] scope pos) scope X.env (firstIterPos [⟨tg, iter, ifs, 0⟩] pos) newDict false (eval iter X.env) (some (assign (.Name y py) X.env))) _ _ s
  have h : tDc wi g tt tk tv (own.map (·.2)) σ H (fun x H1 => gName i x σ H1 D.nx) := h
  refine wpAny_bind (thn (dc_core (Qf := fun _ s' => SP X pins D .next s') hc hN I hi ok hg ht hk he hs h fun L C s' m H' I' q hn f => ?_) fun _ s' hq => wpAny_pure (wpAny_pure hq))
  show wpAny _ _ (assign (.Name y py) X.env (.ref L)) _ _ _
  refine wpAny_assign_Name (store_ok2 (v := V.ref L) I' hN hy (.inl hyl) rfl (fun s2 I2 ⟨a, sb, ha⟩ => ?_) (.inr hyl))
  obtain ⟨f0, f1, f2, f3, f4, f5⟩ := f
  have haC : C ≠ a := by
    rcases ha with z | z
    · rw [z]; exact f1
    · exact fun e => f4 y a z e.symm
  refine ⟨m, hn.sameBut sb haC, fun h3 sb3 => ?_⟩
  exact ⟨_, H', I2.turned (t' := s2.toks) (fun b o hb e => (sb3.2 b hb).trans e) f0 f1 f3 f4 f5, q⟩
end
end Sm

/-! RepT: tuple * k, k at most 1. -/
namespace Sm
open PySem PySem.Spec PyProof.Rows L2
theorem tuple_mul1 (l : Addr) (items : Array Value) (n : Nat) (dd : Option Addr) (sl : Array (Option Value)) (u : Tok) :
    Meets (Builtin.«tuple.__mul__» ⟨[.ref l, .int 1 u], []⟩) (fun _ R s => s.heap.get? l = some { cls := .type "tuple", dict := dd, data := .seq items n, slots := sl } ∧
      R (.ok (.ret (Value.ref l))) s) :=
  .of_wp fun prog w A R s h => by
    obtain ⟨hp, g, d, tk, os⟩ := s
    obtain ⟨hl, h⟩ := h
    have f1 := AutoSeq1.idx_int
    have c0 : (decide ((1 : Int) < -(2 ^ 63)) || decide ((1 : Int) ≥ 2 ^ 63)) = false := by decide
    have c1 : (items.isEmpty || (1 : Int) == 1) = true := by simp
    wp_walk using wpAny_loadPart' hl
    exact ⟨_, rfl, h⟩
theorem tuple_mul0 (l : Addr) (items : Array Value) (n : Nat) (dd : Option Addr) (sl : Array (Option Value)) (u : Tok) (hi : items.isEmpty = false) :
    Meets (Builtin.«tuple.__mul__» ⟨[.ref l, .int 0 u], []⟩) (fun _ R s => s.heap.get? l = some { cls := .type "tuple", dict := dd, data := .seq items n, slots := sl } ∧
      R (.ok (.ret (Value.ref s.heap.objs.size))) { s with heap := s.heap.push { cls := Value.type "tuple", data := Data.seq #[] }, toks := s.toks }) :=
  .of_wp fun prog w A R s h => by
    obtain ⟨hp, g, d, tk, os⟩ := s
    obtain ⟨hl, h⟩ := h
    have f1 := AutoSeq1.idx_int
    have c0 : (decide ((0 : Int) < -(2 ^ 63)) || decide ((0 : Int) ≥ 2 ^ 63)) = false := by decide
    have c1 : (items.isEmpty || (0 : Int) == 1) = false := by rw [hi]; decide
    have c2 : (decide ((0 : Int) ≤ 0) || items.isEmpty) = true := by rw [hi]; decide
    wp_walk using wpAny_loadPart' hl
    exact ⟨_, rfl, h⟩
def rRep1 (K : PySem.W.Frag) : R2 := fun x y H Q => ∃ l xs, x = .ref l ∧ y = .int 1 ∧ SqT K H l xs ∧ xs ≠ [] ∧ Q (.ref l) H
def rRep0 (K : PySem.W.Frag) : R2 := fun x y H Q => ∃ l xs, x = .ref l ∧ y = .int 0 ∧ SqT K H l xs ∧ xs ≠ [] ∧ NewT H [] Q
section
variable {X : Cx}
theorem op_rep1 : OpR X (binaryOp .Mult) (rRep1 X.K) := by
  intro pins st σ H x y v u Q I rx ry h
  obtain ⟨l, xs, rfl, rfl, hT, hne, q⟩ := h
  cases rx
  obtain ⟨t, rfl⟩ := ry
  obtain ⟨its, r, ⟨⟨cls, dd, data, sl⟩, ho, hc, n, hd⟩, hs⟩ := I.tuple hT
  simp only at hc hd
  subst hc hd
  exact wpAny_binaryOp_repeat_ref (T := "tuple") (U := "int") (by decide) ⟨_, ho, rfl⟩ (fun s' => typeIs_int s' 1 t) noFill_tuple_mul F.fills_int_mul F.slot_int_rmul repeat_tuple F.slot_int_index.lookup
    (call_meets F.slot_int_rmul (typeIs_int st 1 t) F.entry_int_rmul (F.args_int_rmul_2 _ _) (int_rmul_tuple 1 t l its.toArray n dd sl)
      ⟨ho, rfl, ⟨_, ho, rfl⟩, call_meets F.slot_tuple_mul ⟨_, ho, rfl⟩ F.entry_tuple_mul (F.args_tuple_mul_2 _ _) (tuple_mul1 l its.toArray n dd sl t) ⟨ho, ⟨.ref l, H, I, rfl, q⟩⟩⟩)
theorem op_rep0 : OpR X (binaryOp .Mult) (rRep0 X.K) := by
  intro pins st σ H x y v u Q I rx ry h
  obtain ⟨l, xs, rfl, rfl, hT, hne, q⟩ := h
  cases rx
  obtain ⟨t, rfl⟩ := ry
  obtain ⟨its, r, ⟨⟨cls, dd, data, sl⟩, ho, hc, n, hd⟩, hs⟩ := I.tuple hT
  simp only at hc hd
  subst hc hd
  have hle : its.length = xs.length := r.length.symm
  have hi : its.toArray.isEmpty = false := by
    cases its with
    | nil => exact absurd (List.eq_nil_of_length_eq_zero hle.symm) hne
    | cons a b => rfl
  refine wpAny_binaryOp_repeat_ref (T := "tuple") (U := "int") (by decide) ⟨_, ho, rfl⟩ (fun s' => typeIs_int s' 0 t) noFill_tuple_mul F.fills_int_mul F.slot_int_rmul repeat_tuple F.slot_int_index.lookup
    (call_meets F.slot_int_rmul (typeIs_int st 0 t) F.entry_int_rmul (F.args_int_rmul_2 _ _) (int_rmul_tuple 0 t l its.toArray n dd sl)
      ⟨ho, rfl, ⟨_, ho, rfl⟩, call_meets F.slot_tuple_mul ⟨_, ho, rfl⟩ F.entry_tuple_mul (F.args_tuple_mul_2 _ _) (tuple_mul0 l its.toArray n dd sl t hi) ⟨ho, ?_⟩⟩)
  exact laidT (t' := st.toks) (h' := st.heap) (its := []) I (by rw [sizeLine_eq]; decide) .nil q
end
end Sm

/-! SimM: tuple * k for every k. -/
namespace Sm
open PySem PySem.Spec PyProof.Rows L2
section
variable {K : PySem.W.Frag} {E : XK}
def gRep1 : List M → Option M
  | [.fl (.val (.tuple ds)), .fl (.val (.int k))] => if ds ≠ [] ∧ k = 1 then some (.val (.tuple ds)) else none
  | _ => none
def gRep0 : List M → Option M
  | [.fl (.val (.tuple ds)), .fl (.val (.int k))] => if ds ≠ [] ∧ k = 0 then some (.val (.tuple [])) else none
  | _ => none
theorem p_rep1 : Prim K (r2L (rRep1 K)) gRep1 := by
  intro us ms m Hb H es Q hg o rp k
  unfold gRep1 at hg
  split at hg
  · rename_i ds j
    split at hg
    · rename_i hz
      cases hg
      obtain ⟨u, v, f1, g1, rfl, r1, r2⟩ := reps2 rp
      obtain ⟨a, xs, rfl, h1, h2⟩ := dp_tup r1.2
      cases dp_int r2.2
      refine ⟨a, xs, rfl, by rw [hz.2], (h1.same o.1).sq, fun z => hz.1 ?_, k _ Hb H (o.val r1.2)⟩
      subst z; cases h2; rfl
    · cases hg
  · cases hg
theorem p_rep0 : Prim K (r2L (rRep0 K)) gRep0 := by
  intro us ms m Hb H es Q hg o rp k
  unfold gRep0 at hg
  split at hg
  · rename_i ds j
    split at hg
    · rename_i hz
      cases hg
      obtain ⟨u, v, f1, g1, rfl, r1, r2⟩ := reps2 rp
      obtain ⟨a, xs, rfl, h1, h2⟩ := dp_tup r1.2
      cases dp_int r2.2
      refine ⟨a, xs, rfl, by rw [hz.2], (h1.same o.1).sq, fun z => hz.1 ?_, fun p ob hbp hp => k _ _ _ (own_tup o hbp hp .nil)⟩
      subst z; cases h2; rfl
    · cases hg
  · cases hg
abbrev rMulV (K : PySem.W.Frag) : R2 := orR (rMulU K) (orR (rRep1 K) (rRep0 K))
def gMulV : List M → Option M := orM gMul (orM gRep1 gRep0)
theorem op_mulV {X : Cx} (hK : X.K = K := by rfl) : OpR X (binaryOp .Mult) (rMulV K) := by subst hK; exact op_or op_mulU (op_or op_rep1 op_rep0)
theorem p_mulV : Prim K (r2L (rMulV K)) gMulV := p_or p_mulU (p_or p_rep1 p_rep0)
end
end Sm
namespace Sm
open PySem PySem.Spec PyProof.Rows L2
theorem dpAll_intsV {K : PySem.W.Frag} {H : Hp} : ∀ ns : List Int, DpAll K H (ns.map V.int) (ns.map PyData.int)
  | [] => .nil
  | n :: ns => .cons (.int n) (dpAll_intsV ns)
theorem dp_bl {K : PySem.W.Frag} {H : Hp} {v : V} {b : Bool} (h : Dp K H v (.bool b)) : v = .bl b := by cases h; rfl
end Sm
namespace Sm
/-- the loops' fuel: enough, and shut -/
theorem fuelEx : ∃ n : Nat, 100000 ≤ n := ⟨1000000, by decide⟩
noncomputable def fuelW : { n : Nat // 100000 ≤ n } := ⟨fuelEx.choose, fuelEx.choose_spec⟩
end Sm

/-! IntsT: sum and max of a tuple of ints. -/
namespace Sm
open PySem PySem.Spec PyProof.Rows L2
section
variable {prog : Program} {w : World} {A : Around} {E : Value → Shared → Prop} {st : Shared} {t : Addr} {is : List Value} {zs : List Int} {Q : Value → Shared → Prop}
theorem tup_sum (hh : A.handled = none) (hl : st.heap.IsTuple t is.toArray) (hi : IntsAre is zs)
    (h : ∀ h' tk u, (∀ b o, st.heap.get? b = some o → h'.get? b = some o) → Q (.int zs.sum u) { st with heap := h', toks := tk }) : wpAny (model prog w) A (call (.builtin "sum") [.ref t]) Q E st := by
  obtain ⟨ys, e⟩ := hi.allInts.items
  have hn : numsOf (intItems ys).toList = zs := by rw [← e]; exact hi.numsOf
  rw [nums_intItems] at hn
  rw [e] at hl
  refine PySem.W.ktm_sumG hh hl fun h' tk u hk => ?_
  have := h h' tk u hk
  rw [preSum_eq, List.take_of_length_le (by simp), hn]
  exact this
theorem tup_max (hh : A.handled = none) (hl : st.heap.IsTuple t is.toArray) (hi : IntsAre is zs) (hne : 0 < zs.length)
    (h : ∀ h' tk M u, (∀ b o, st.heap.get? b = some o → h'.get? b = some o) → M ∈ zs → (∀ a, a ∈ zs → a ≤ M) → Q (.int M u) { st with heap := h', toks := tk }) : wpAny (model prog w) A (call (.builtin "max") [.ref t]) Q E st := by
  obtain ⟨ys, e⟩ := hi.allInts.items
  have hn : numsOf (intItems ys).toList = zs := by rw [← e]; exact hi.numsOf
  rw [nums_intItems] at hn
  subst hn
  rw [e] at hl
  have hpos : 0 < ys.size := by simpa using hne
  have hsz : (intItems ys).size = ys.size := by simp [intItems]
  obtain ⟨o, ho, hc, n, hd⟩ := id hl
  have hlt : t < st.heap.objs.size := Heap.lt_size ho
  have hnt : t ≠ st.heap.objs.size := Nat.ne_of_lt hlt
  have W := Walks.tuple (prog := prog) (w := w) (A := A.in1) hh st.heap.objs.size t hnt (intItems ys)
  rw [hsz] at W
  refine call_max_walk (wpAny_pyIter_tuple hl ?_)
  refine ⟨st.heap.objs.size, _, _, _, _, _, _, rfl, W, ⟨⟨_, Heap.get?_push_size _ rfl, rfl, rfl⟩, hl.at fun o e => Heap.get?_push_of_some _ e⟩, fun b hb => ?_, hpos, CmpOf.ints_gt (numAt ys) (fun _ _ => intItems_at), fun v h' tk hP hk => ?_⟩
  · rcases List.mem_cons.mp hb with rfl | hb
    · exact Heap.lt_size (Heap.get?_push_size _ rfl)
    · obtain rfl := List.mem_singleton.mp hb
      exact Heap.lt_size (Heap.get?_push_of_some _ ho)
  · obtain ⟨u, rfl⟩ := intItems_at hP
    obtain ⟨h1, h2⟩ := argBest_gt (numAt ys) (ys.size - 1)
    refine h h' tk _ u (fun b o e => hk b o (fun hm => ?_) (Heap.get?_push_of_some _ e)) ?_ fun a ha => ?_
    · have := List.mem_singleton.mp hm
      exact absurd (this ▸ Heap.lt_size e) (Nat.lt_irrefl _)
    · rw [numAt_eq]; exact PySem.getD_mem (by rw [List.length_map, Array.length_toList]; omega)
    · obtain ⟨j, hj, rfl⟩ := mem_getD ha
      rw [List.length_map, Array.length_toList] at hj
      rw [← numAt_eq]; exact h2 j (by omega)
end
def rSumT (K : PySem.W.Frag) : List V → Hp → VK → Prop := fun vs H Q => ∃ (a : Addr) (zs : List Int), vs = [V.ref a] ∧ SqT K H a (zs.map V.int) ∧ Q (.int zs.sum) H
def rMaxT (K : PySem.W.Frag) : List V → Hp → VK → Prop := fun vs H Q => ∃ (a : Addr) (zs : List Int), vs = [V.ref a] ∧ SqT K H a (zs.map V.int) ∧ 0 < zs.length ∧ ∀ m, m ∈ zs → (∀ y, y ∈ zs → y ≤ m) → Q (.int m) H
section
variable {X : Cx}
theorem cr_sumT (hc : X.calm = true) : CallR X (.builtin "sum") (rSumT X.K) := by
  intro pins st σ H vs us Q I r h
  obtain ⟨a, zs, rfl, hs, q⟩ := h
  obtain ⟨its, rv, hl, _⟩ := I.tuple hs
  rw [Vals.ref1 r]
  exact tup_sum (I.ok.hd hc) hl rv.ints fun h' tk u hk => ⟨.int _, H, I.kept hk, ⟨_, rfl⟩, q⟩
theorem cr_maxT (hc : X.calm = true) : CallR X (.builtin "max") (rMaxT X.K) := by
  intro pins st σ H vs us Q I r h
  obtain ⟨a, zs, rfl, hs, hne, q⟩ := h
  obtain ⟨its, rv, hl, _⟩ := I.tuple hs
  rw [Vals.ref1 r]
  exact tup_max (I.ok.hd hc) hl rv.ints hne fun h' tk m u hk h1 h2 => ⟨.int _, H, I.kept hk, ⟨_, rfl⟩, q m h1 h2⟩
end
section
variable {K : PySem.W.Frag} {E : XK}
def orC (r s : List V → Hp → VK → Prop) : List V → Hp → VK → Prop := fun vs H Q => r vs H Q ∨ s vs H Q
theorem cr_or {X : Cx} {f : Value} {r s : List V → Hp → VK → Prop} (h1 : CallR X f r) (h2 : CallR X f s) : CallR X f (orC r s) := by
  intro pins st σ H vs us Q I rv h
  rcases h with h | h
  · exact h1 pins st σ H vs us Q I rv h
  · exact h2 pins st σ H vs us Q I rv h
theorem p_orC {r s : List V → Hp → VK → Prop} {f g : List M → Option M} (h1 : Prim K r f) (h2 : Prim K s g) : Prim K (orC r s) (orM f g) := by
  intro us ms m Hb H es Q hg o rp k
  rcases orM_inv hg with z | z
  · exact .inl (h1 us ms m Hb H es Q z o rp k)
  · exact .inr (h2 us ms m Hb H es Q z o rp k)
def gIntsT (f : List Int → Option PyData) : List M → Option M
  | [a] => match (tupOf a).bind intsOf with
    | some ns => (f ns).map M.val
    | none => none
  | _ => none
theorem gIntsT_inv {f : List Int → Option PyData} {ms : List M} {m : M} (h : gIntsT f ms = some m) : ∃ ds ns d, ms = [.val (.tuple ds)] ∧ intsOf ds = some ns ∧ f ns = some d ∧ m = .val d := by
  unfold gIntsT at h
  split at h
  · rename_i a
    split at h
    · rename_i ns hn
      obtain ⟨ds, q, hn⟩ := Option.bind_eq_some_iff.mp hn
      obtain ⟨d, q2, rfl⟩ := Option.map_eq_some_iff.mp h
      exact ⟨ds, ns, d, by rw [tupOf_inv q], hn, q2, rfl⟩
    · cases h
  · cases h
def gSumU : List M → Option M := orM gSum (gIntsT fun ns => some (.int ns.sum))
def gMaxU : List M → Option M := orM gMax (gIntsT fun ns => match ns with
  | [] => none
  | _ => some (.int (maxI ns)))
theorem p_sumT : Prim K (rSumT K) (gIntsT fun ns => some (.int ns.sum)) := by
  intro us ms m Hb H es Q hg o rp k
  obtain ⟨ds, ns, d, rfl, q2, q3, rfl⟩ := gIntsT_inv hg
  cases q3
  obtain ⟨u, f, rfl, r⟩ := reps1 rp
  obtain ⟨b, xs, rfl, h1, h2⟩ := dp_tup r.2
  cases ints_dp h2 q2
  exact ⟨b, ns, rfl, (h1.same o.1).sq, k _ Hb H (o.val (.int _))⟩
theorem p_maxT : Prim K (rMaxT K) (gIntsT fun ns => match ns with
    | [] => none
    | _ => some (.int (maxI ns))) := by
  intro us ms m Hb H es Q hg o rp k
  obtain ⟨ds, ns, d, rfl, q2, q3, rfl⟩ := gIntsT_inv hg
  obtain ⟨u, f, rfl, r⟩ := reps1 rp
  obtain ⟨b, xs, rfl, h1, h2⟩ := dp_tup r.2
  cases ints_dp h2 q2
  cases ns with
  | nil => cases q3
  | cons x l =>
    cases q3
    refine ⟨b, x :: l, rfl, (h1.same o.1).sq, by simp, fun m hm hy => ?_⟩
    obtain ⟨s1, s2⟩ := maxI_spec (l := x :: l) (by simp)
    have e : m = maxI (x :: l) := Int.le_antisymm (s2 m hm) (hy _ s1)
    rw [e]
    exact k _ Hb H (o.val (.int _))
theorem p_sumU : Prim K (orC (rSum K) (rSumT K)) gSumU := p_orC p_sum p_sumT
theorem p_maxU : Prim K (orC (rMax K) (rMaxT K)) gMaxU := p_orC p_max p_maxT
theorem call_sumU {X : Cx} (hc : X.calm = true) (hK : X.K = K := by rfl) : CallR X (.builtin "sum") (orC (rSum K) (rSumT K)) := by subst hK; exact cr_or (cr_sum hc) (cr_sumT hc)
theorem call_maxU {X : Cx} (hc : X.calm = true) (hK : X.K = K := by rfl) : CallR X (.builtin "max") (orC (rMax K) (rMaxT K)) := by subst hK; exact cr_or (cr_max hc) (cr_maxT hc)
end
end Sm

/-! SimN: methods that read lists, sorted. -/
namespace Sm
open PySem PySem.Spec PyProof.Rows L2
section
variable {K : PySem.W.Frag} {E : XK}
def rCons (r : V → List V → Hp → VK → Prop) : List V → Hp → VK → Prop := fun us H Q => match us with
  | x :: xs => r x xs H Q
  | [] => False
/-- o.m(..) of a list that stands in a slot -/
def cMRv (g : List M → Option M) (i : Nat) (os : List OpD) : DE := fun e => match (lstOf (e.get i)).isSome with
  | false => .bad
  | true => cOp g (.v i :: os) e
/-- o.m(..) of a list that an expression gives -/
def cMR (g : List M → Option M) (d : DE) (os : List OpD) : DE := fun e => (d e).bind fun m e1 => match (lstOf m).isSome with
  | false => .bad
  | true => cOp g (.e (fun e => .ok m e) :: os) e1
theorem lst_hole {m : M} (h : (lstOf m).isSome = true) : m.isHole = false := by
  cases m with
  | ins C fs => rfl
  | fl x => cases x <;> first | rfl | cases h
theorem lst_ty {Hb H : Hp} {v : V} {m : M} {f : List Addr} (s : Same Hb H) (r : RM K Hb H v m f) (h : (lstOf m).isSome = true) : tyV K "list" v H := by
  obtain ⟨ds, hd⟩ := Option.isSome_iff_exists.mp h
  obtain ⟨a, xs, rfl, h1, _⟩ := lst_dp s r hd
  exact .inl ⟨rfl, xs, h1⟩
theorem se_mrv {r : V → List V → Hp → VK → Prop} {g : List M → Option M} {i : Nat} {t : TA} {os : List OpD} (P : Prim K (rCons r) g) (h : SimA K E t os) : SimE K E (tBM K "list" r (tVar i) t) (cMRv g i os) := by
  intro σ vs Hb H e fr Q w hq
  have h0 : PostE K E σ vs fr Q (match (lstOf (e.get i)).isSome with
    | false => .bad
    | true => cOp g (.v i :: os) e) := hq
  cases ql : (lstOf (e.get i)).isSome with
  | false => rw [ql] at h0; exact h0.elim
  | true =>
    rw [ql] at h0
    obtain ⟨v, hv, f, rm⟩ := w.slot (lst_hole ql)
    refine ⟨v, hv, lst_ty w.same rm ql, ?_⟩
    have h1 := sa_v (i := i) h σ vs Hb H e fr _ w (prim_end P h0)
    obtain ⟨v', hv', h2⟩ := h1
    rw [hv] at hv'
    cases hv'
    exact h2
theorem se_mr {r : V → List V → Hp → VK → Prop} {g : List M → Option M} {to : TE} {d : DE} {t : TA} {os : List OpD} (P : Prim K (rCons r) g) (ho : SimE K E to d) (h : SimA K E t os) : SimE K E (tBM K "list" r to t) (cMR g d os) := by
  intro σ vs Hb H e fr Q w hq
  have h0 : PostE K E σ vs fr Q ((d e).bind fun m e1 => match (lstOf m).isSome with
    | false => .bad
    | true => cOp g (.e (fun e => .ok m e) :: os) e1) := hq
  refine ho.run w (fun m e1 q v Hb1 H1 w1 => ?_) (fun x e1 q => by rw [q] at h0; exact h0) fun q => by rw [q] at h0; exact h0
  rw [q] at h0
  have h2 : PostE K E σ vs fr Q (match (lstOf m).isSome with
    | false => .bad
    | true => cOp g (.e (fun e => .ok m e) :: os) e1) := h0
  cases ql : (lstOf m).isSome with
  | false => rw [ql] at h2; exact h2.elim
  | true =>
    rw [ql] at h2
    obtain ⟨f, rm⟩ := w1.front.head
    refine ⟨lst_ty w1.same rm ql, ?_⟩
    have h3 := prim_end P h2
    have ev : evA (.e (fun e => .ok m e) :: os) e1 = (evA os e1).bind fun ms e2 => .ok (m :: ms) e2 := rfl
    rw [ev] at h3
    refine h σ vs Hb1 H1 e1 _ _ w1 ?_
    cases q2 : evA os e1 with
    | bad => rw [q2] at h3; exact h3.elim
    | exc x e2 => rw [q2] at h3; exact fun c d Hb H w2 hx => h3 c d Hb H w2.drop1 hx
    | ok ms e2 =>
      rw [q2] at h3
      intro us es Hb2 H2 a1 w2
      exact h3 (v :: us) ((some v, m) :: es) Hb2 H2 (.e a1) (w2.perm (by exact List.perm_middle))
/-! ### list.index, list.count -/
def gIndex : List M → Option M
  | [s, .fl (.val d)] => match lstOf s with
    | some ds => (match inOk d ds with
      | true => (match ds.findIdx? fun z => PyData.eqv z d with
        | some j => some (.val (.int (j : Nat)))
        | none => none)
      | false => none)
    | none => none
  | _ => none
theorem dpAll_getV {H : Hp} : ∀ {xs : List V} {ds : List PyData} {i : Nat} {v : V}, DpAll K H xs ds → xs[i]? = some v → ∃ d, ds[i]? = some d ∧ Dp K H v d
  | [], [], i, v, _, h => by simp at h
  | x :: xs, d :: ds, 0, v, .cons r t, h => by simp at h; subst h; exact ⟨d, rfl, r⟩
  | x :: xs, d :: ds, i + 1, v, .cons r t, h => by simpa using dpAll_getV t (by simpa using h)
theorem p_index : Prim K (rCons (rIndex K)) gIndex := by
  intro us ms m Hb H es Q hg o rp k
  unfold gIndex at hg
  split at hg
  · rename_i s d
    split at hg
    · rename_i ds hs
      split at hg
      · rename_i hk
        split at hg
        · rename_i j hj
          cases hg
          obtain ⟨u, v, f1, g1, rfl, r1, r2⟩ := reps2 rp
          obtain ⟨a, xs, rfl, hq, hd⟩ := lst_dp o.1 r1 hs
          obtain ⟨z1, z2⟩ := Bool.and_eq_true_iff.mp hk
          obtain ⟨hlt, h2, h3⟩ := List.findIdx?_eq_some_iff_getElem.mp hj
          obtain ⟨z, hz, rz⟩ := dpAll_get hd (List.getElem?_eq_getElem hlt)
          have fl : ∀ (i : Nat) (hi : i < ds.length), flatD ds[i] = true := fun i hi => List.all_eq_true.mp z2 _ (List.getElem_mem hi)
          refine ⟨a, xs, v, j, z, rfl, rfl, hq, flat_of r2.2 z1, allFlat_of hd z2, hz, ?_, fun i z' hi hz' => ?_, k _ Hb H (o.val (.int _))⟩
          · rw [eqV_of rz r2.2 (fl j hlt) z1]; exact h2
          · obtain ⟨d', hd', rd'⟩ := dpAll_getV hd hz'
            have hi2 : i < ds.length := by omega
            rw [List.getElem?_eq_getElem hi2] at hd'
            cases hd'
            rw [eqV_of rd' r2.2 (fl i hi2) z1]
            have := h3 i hi
            simpa using this
        · cases hg
      · cases hg
    · cases hg
  · cases hg
def gCount : List M → Option M
  | [s, .fl (.val (.int i))] => match (lstOf s).bind intsOf with
    | some ns => some (.val (.int (ns.count i : Nat)))
    | none => none
  | _ => none
theorem p_count : Prim K (rCons (rCntI K)) gCount := by
  intro us ms m Hb H es Q hg o rp k
  unfold gCount at hg
  split at hg
  · rename_i s i
    split at hg
    · rename_i ns hs
      cases hg
      obtain ⟨u, v, f1, g1, rfl, r1, r2⟩ := reps2 rp
      cases dp_int r2.2
      cases q : lstOf s with
      | none => rw [q] at hs; cases hs
      | some ds =>
        rw [q] at hs
        obtain ⟨a, xs, rfl, hq, hd⟩ := lst_dp o.1 r1 q
        cases ints_dp hd hs
        exact ⟨a, ns, i, rfl, rfl, hq, k _ Hb H (o.val (.int _))⟩
    · cases hg
  · cases hg
/-! ### sorted, whole numbers -/
def sortI (ns : List Int) : List Int := ns.mergeSort fun i j => decide (i ≤ j)
theorem sortI_perm (ns : List Int) : (sortI ns).Perm ns := List.mergeSort_perm _ _
theorem sortI_pw (ns : List Int) : (sortI ns).Pairwise (· ≤ ·) := by
  have := List.pairwise_mergeSort (le := fun i j : Int => decide (i ≤ j)) (fun a b c h1 h2 => by simp at *; omega) (fun a b => by simp; omega) ns
  exact this.imp fun h => by simpa using h
theorem pw_uniq {α : Type} {r : α → α → Prop} (ha : ∀ x y, r x y → r y x → x = y) : ∀ {l m : List α}, l.Perm m → l.Pairwise r → m.Pairwise r → l = m
  | [], m, h, _, _ => h.symm.eq_nil.symm
  | x :: l, [], h, _, _ => absurd h.eq_nil (by simp)
  | x :: l, y :: m, h, h1, h2 => by
    obtain ⟨a1, a2⟩ := List.pairwise_cons.mp h1
    obtain ⟨b1, b2⟩ := List.pairwise_cons.mp h2
    have e : x = y := by
      rcases List.mem_cons.mp (h.mem_iff.mp (List.mem_cons_self (a := x) (l := l))) with e | hx
      · exact e
      · rcases List.mem_cons.mp (h.mem_iff.mpr (List.mem_cons_self (a := y) (l := m))) with e | hy
        · exact e.symm
        · exact ha x y (a1 y hy) (b1 x hx)
    subst e
    rw [pw_uniq ha h.cons_inv a2 b2]
def gSortI : List M → Option M
  | [s] => match (lstOf s).bind intsOf with
    | some ns => some (.lst ((sortI ns).map .int))
    | none => none
  | _ => none
theorem p_sortI : Prim K (rSortedI K) gSortI := by
  intro us ms m Hb H es Q hg o rp k
  unfold gSortI at hg
  split at hg
  · rename_i s
    split at hg
    · rename_i ns hs
      cases hg
      obtain ⟨u, f1, rfl, r1⟩ := reps1 rp
      cases q : lstOf s with
      | none => rw [q] at hs; cases hs
      | some ds =>
        rw [q] at hs
        obtain ⟨a, xs, rfl, hq, hd⟩ := lst_dp o.1 r1 q
        cases ints_dp hd hs
        refine ⟨a, ns, rfl, hq, fun ns' p hp hw hn => ?_⟩
        have e : ns' = sortI ns := pw_uniq (fun x y h1 h2 => Int.le_antisymm h1 h2) (hp.trans (sortI_perm ns).symm) hw (sortI_pw ns)
        subst e
        exact k _ _ _ (own_lst o hn (dpAll_intsV _))
    · cases hg
  · cases hg
/-! ### sorted, pairs of whole numbers -/
def pairAt (H : Hp) (v : V) : Int × Int := match v with
  | .ref t => (match H t with
    | some (.tup [.int i, .int j]) => (i, j)
    | some (.frz _ (.tup [.int i, .int j])) => (i, j)
    | _ => (0, 0))
  | _ => (0, 0)
def rSortedR (K : PySem.W.Frag) : List V → Hp → VK → Prop := fun vs H Q => ∃ (a : Addr) (xs : List V), vs = [V.ref a] ∧ SqL K H a xs ∧ (∀ x ∈ xs, ∃ t i j, x = V.ref t ∧ Rd H t (.tup [.int i, .int j])) ∧
  ∀ ys p, SrtO.Srtd (ltP (pairAt H)) ys → ys.Perm xs → H p = none → Q (.ref p) (upd H p (.lst ys))
theorem pairAt_rd {H : Hp} {t : Addr} {i j : Int} (h : Rd H t (.tup [.int i, .int j])) : pairAt H (.ref t) = (i, j) := by
  rcases h with h | ⟨o, h⟩
  · show (match H t with
    | some (.tup [.int i, .int j]) => (i, j)
    | some (.frz _ (.tup [.int i, .int j])) => (i, j)
    | _ => (0, 0)) = (i, j)
    rw [h]
  · show (match H t with
    | some (.tup [.int i, .int j]) => (i, j)
    | some (.frz _ (.tup [.int i, .int j])) => (i, j)
    | _ => (0, 0)) = (i, j)
    rw [h]
theorem cr_sortedR {X : Cx} : CallR X (.builtin "sorted") (rSortedR X.K) := by
  intro pins s σ H vs us Q I r h
  obtain ⟨a, xs, rfl, hs, hx, q⟩ := h
  obtain ⟨its, rv, hl, hz⟩ := I.list hs
  obtain ⟨u, rfl, ru⟩ := vals1 r
  obtain rfl : u = Value.ref a := ru
  obtain ⟨e1, e2⟩ := refs_back rv fun x m => by
    obtain ⟨t, _, _, e, _⟩ := hx x m
    exact ⟨t, e⟩
  refine SrtO.sorted_pairsO (k := fun u => pairAt H (backV u)) hl.isList (by rw [← rv.length]; exact hz) (fun v hv => ?_) fun h' d out h1 h2 kp hd hn => ?_
  · obtain ⟨t, rfl⟩ := e2 v hv
    have hm : V.ref t ∈ xs := by rw [e1]; exact List.mem_map.mpr ⟨_, hv, rfl⟩
    obtain ⟨t', i, j, e, ht⟩ := hx _ hm
    cases e
    obtain ⟨its2, r2, ⟨o, ho, hc, n, hd⟩, _⟩ := I.tuple (.inl ht)
    obtain ⟨u1, u2, rfl, ri, rj⟩ := vals2 r2
    obtain ⟨t1, rfl⟩ := ri
    obtain ⟨t2, rfl⟩ := rj
    have ek : pairAt H (backV (Value.ref t)) = (i, j) := pairAt_rd ht
    refine ⟨t, o, t1, t2, n, rfl, ho, hc, ?_⟩
    rw [ek]; exact hd
  · have h3 : ∀ u ∈ out, ∃ a, u = Value.ref a := fun u hu => e2 u (h2.perm.mem_iff.mp hu)
    obtain ⟨n, hn⟩ := hn
    have hb : SrtO.Stb (ltP (pairAt H)) (out.map backV) xs := by
      rw [e1]
      exact SrtO.Stb.map (ltP_swo (pairAt H)) backV h2
    refine ⟨.ref d, upd H d (.lst (out.map backV)), I.laid (t' := s.toks) kp hd ⟨?_, out, n, vals_back h3, hn⟩, rfl, q _ d (SrtO.srtd_map h1) hb.perm (I.hok.fresh hd)⟩
    rw [hb.len]
    exact hz
def ltQ (a b : Int × Int) : Bool := decide (a.1 < b.1 ∨ a.1 = b.1 ∧ a.2 < b.2)
def sortQ (l : List (Int × Int)) : List (Int × Int) := l.mergeSort fun a b => !ltQ b a
theorem sortQ_perm (l : List (Int × Int)) : (sortQ l).Perm l := List.mergeSort_perm _ _
theorem sortQ_pw (l : List (Int × Int)) : (sortQ l).Pairwise fun a b => ltQ b a = false := by
  have := List.pairwise_mergeSort (le := fun a b : Int × Int => !ltQ b a) (fun a b c h1 h2 => by unfold ltQ at *; simp at *; omega) (fun a b => by unfold ltQ; simp; omega) l
  exact this.imp fun h => by simpa using h
theorem ltQ_anti (a b : Int × Int) (h1 : ltQ b a = false) (h2 : ltQ a b = false) : a = b := by
  unfold ltQ at *
  simp at h1 h2
  exact Prod.ext (by omega) (by omega)
def pairD : PyData → Option (Int × Int)
  | .tuple [.int i, .int j] => some (i, j)
  | _ => none
def pairsOf : List PyData → Option (List (Int × Int))
  | [] => some []
  | d :: ds => match pairD d, pairsOf ds with
    | some p, some ps => some (p :: ps)
    | _, _ => none
abbrev ofPair (p : Int × Int) : PyData := .tuple [.int p.1, .int p.2]
theorem pairD_inv {d : PyData} {p : Int × Int} (h : pairD d = some p) : d = ofPair p := by
  unfold pairD at h
  split at h
  · cases h; rfl
  · cases h
theorem pairs_inv : ∀ {ds : List PyData} {ps : List (Int × Int)}, pairsOf ds = some ps → ds = ps.map ofPair
  | [], ps, h => by cases h; rfl
  | d :: ds, ps, h => by
    unfold pairsOf at h
    split at h
    · rename_i p qs h1 h2
      cases h
      rw [List.map_cons, pairD_inv h1, pairs_inv h2]
    · cases h
def gSortP : List M → Option M
  | [s] => match (lstOf s).bind pairsOf with
    | some ps => some (.lst ((sortQ ps).map ofPair))
    | none => none
  | _ => none
theorem dp_pair {Hb : Hp} {v : V} {p : Int × Int} (h : Dp K Hb v (ofPair p)) : ∃ t, v = .ref t ∧ Rd Hb t (.tup [.int p.1, .int p.2]) := by
  obtain ⟨a, xs, rfl, h1, h2⟩ := dp_tup h
  cases h2 with
  | cons r1 t1 => cases t1 with
    | cons r2 t2 =>
      cases t2
      cases dp_int r1
      cases dp_int r2
      exact ⟨a, rfl, h1.rd⟩
theorem p_sortP : Prim K (rSortedR K) gSortP := by
  intro us ms m Hb H es Q hg o rp k
  unfold gSortP at hg
  split at hg
  · rename_i s
    split at hg
    · rename_i ps hs
      cases hg
      obtain ⟨u, f1, rfl, r1⟩ := reps1 rp
      cases q : lstOf s with
      | none => rw [q] at hs; cases hs
      | some ds =>
        rw [q] at hs
        have hds := pairs_inv hs
        subst hds
        obtain ⟨a, xs, rfl, hq, hd⟩ := lst_dp o.1 r1 q
        have key : ∀ {xs : List V} {ps : List (Int × Int)}, DpAll K Hb xs (ps.map ofPair) → ∀ x ∈ xs, Dp K Hb x (ofPair (pairAt H x)) := by
          intro xs
          induction xs with
          | nil => intro ps _ x hx; cases hx
          | cons y ys ih =>
            intro ps hp x hx
            cases ps with
            | nil => cases hp
            | cons p ps =>
              cases hp with
              | cons r t =>
                rcases List.mem_cons.mp hx with rfl | hx
                · obtain ⟨t0, rfl, h1⟩ := dp_pair r
                  rw [pairAt_rd (Sm.Rd.same o.1 h1)]; exact r
                · exact ih t x hx
        have hmap : ∀ {xs : List V} {ps : List (Int × Int)}, DpAll K Hb xs (ps.map ofPair) → xs.map (pairAt H) = ps := by
          intro xs
          induction xs with
          | nil => intro ps hp; cases ps with
            | nil => rfl
            | cons p ps => cases hp
          | cons y ys ih =>
            intro ps hp
            cases ps with
            | nil => cases hp
            | cons p ps =>
              cases hp with
              | cons r t =>
                obtain ⟨t0, rfl, h1⟩ := dp_pair r
                rw [List.map_cons, ih t, pairAt_rd (Sm.Rd.same o.1 h1)]
        refine ⟨a, xs, rfl, hq, fun x hx => ?_, fun ys p hs2 hp hn => ?_⟩
        · obtain ⟨t0, rfl, h1⟩ := dp_pair (key hd x hx)
          exact ⟨t0, _, _, rfl, Sm.Rd.same o.1 h1⟩
        · have e : ys.map (pairAt H) = sortQ ps := by
            refine pw_uniq (r := fun a b => ltQ b a = false) (fun x y h1 h2 => ltQ_anti x y h1 h2) ?_ ?_ (sortQ_pw ps)
            · have := hp.map (pairAt H)
              rw [hmap hd] at this
              exact this.trans (sortQ_perm ps).symm
            · refine List.pairwise_map.mpr (hs2.imp fun {x y} h => ?_)
              have h' : SrtO.lexB (pairAt H y) (pairAt H x) = false := h
              have := SrtO.lexB_no.mp h'
              unfold ltQ
              simp
              omega
          have hall : ∀ {zs : List V}, (∀ z ∈ zs, Dp K Hb z (ofPair (pairAt H z))) → DpAll K Hb zs ((zs.map (pairAt H)).map ofPair) := by
            intro zs
            induction zs with
            | nil => intro _; exact .nil
            | cons z zs ih => intro h; exact .cons (h z (by simp)) (ih fun x hx => h x (List.mem_cons_of_mem _ hx))
          have k' := k
          rw [← e] at k'
          exact k' _ _ _ (own_lst o hn (hall fun z hz => key hd z (hp.mem_iff.mp hz)))
    · cases hg
  · cases hg
def gSortU : List M → Option M := orM gSortI gSortP
theorem p_sortU : Prim K (orC (rSortedI K) (rSortedR K)) gSortU := p_orC p_sortI p_sortP
theorem call_sortedU {X : Cx} (hK : X.K = K := by rfl) : CallR X (.builtin "sorted") (orC (rSortedI K) (rSortedR K)) := by subst hK; exact cr_or cr_sortedI cr_sortedR
theorem mt_indexK {X : Cx} (hK : X.K = K := by rfl) : MtR X "list.index" (rIndex K) := by subst hK; exact mt_index
theorem mt_countK {X : Cx} (hK : X.K = K := by rfl) : MtR X "list.count" (rCntI K) := by subst hK; exact mt_lcount
/-! ### methods of tuples -/
def tBMT (r : V → List V → Hp → VK → Prop) (to : TE) (t : TA) : TE := fun σ H Q => to σ H fun x H1 => (∃ a xs, x = .ref a ∧ RdT H1 a xs) ∧ t σ H1 fun xs H2 => r x xs H2 Q
theorem pe_bmT {X : Cx} {id : String} {name : Str} {r : V → List V → Hp → VK → Prop} {o e : Expr} {es : List Expr} {to : TE} {t : TA} {apos cpos : Pos} (slot : PySem.Slot "tuple" name id) (hty : typeOf (.builtin id) = pure (.type "method_descriptor")) (hm : MtR X id r) (ho : PE X o to) (ha : PA X (e :: es) t)
    (hbase : attributeBase o name X.env (eval o X.env) = eval o X.env := by rfl)
    (hfew : ((backTo cpos (starEach (e :: es) X.env)).all (fun x => !x.1) && (backToKw cpos (keywordEach [] X.env)).all (fun x => x.1.isSome)
      && decide ((e :: es).length + ([] : List Keyword).length + (if ([] : List Keyword).isEmpty then 0 else 1) < 30)) = true := by rfl)
    (hline : (apos.endLine == cpos.line) = true := by rfl) (hs : starEach (e :: es) X.env = (false, eval e X.env) :: starEach es X.env := by rfl) (hplain : (backTo cpos (starEach es X.env)).any (·.1) = false := by rfl) :
    PE X (.Call (.Attribute o name apos) (e :: es) [] cpos) (tBMT r to t) := by
  refine ⟨fun pins s σ H Q I q0 => wpAny_Call_method_late hbase hfew hline rfl (thn (ho.run pins s σ H _ I q0) fun v s1 ⟨x, H1, I1, r1, ⟨a, xs, ex, ob, hb, ea⟩, q1⟩ => ?_)⟩
  subst ex
  obtain rfl : v = Value.ref a := r1
  obtain ⟨g1, _, _, _, ob2, g2, hc, _⟩ := I1.hok a _ ea
  rw [g1] at g2
  cases g2
  refine ⟨"tuple", id, PySem.F.plainAttrs_tuple, slot, hty, ⟨ob, g1, hc⟩, fun b eb => by cases eb; exact ⟨ob, g1, hb⟩, ?_⟩
  have hA := ha.run cpos pins s1 σ H1 _ I1 q1
  rw [hs] at hA ⊢
  refine Calls.callWith_builtin (by show (false || (backTo cpos (starEach es X.env)).any (·.1)) = false; rw [hplain]; rfl) (Calls.evalArgs_plain ?_)
  exact thn hA fun us s2 ⟨vs, H2, I2, r2, q2⟩ => hm pins s2 σ H2 (.ref a) vs (.ref a) us Q I2 rfl r2 q2
def rTIx (K : PySem.W.Frag) : V → List V → Hp → VK → Prop := fun x xs H Q => ∃ (a : Addr) (ys : List V) (y : V) (j : Nat) (z : V), x = V.ref a ∧ xs = [y] ∧ SqT K H a ys ∧ flatV y = true ∧ ys.all flatV = true ∧ ys[j]? = some z ∧ eqV z y = true ∧
  (∀ (m : Nat) (z' : V), m < j → ys[m]? = some z' → eqV z' y = false) ∧ Q (.int (j : Nat)) H
theorem mt_tix {X : Cx} : MtR X "tuple.index" (rTIx X.K) := by
  intro pins s σ H x xs v us Q I rx rxs h
  obtain ⟨a, ys, y, j, z, rfl, rfl, hs, fy, fys, hz, hzj, hno, q⟩ := h
  cases rx
  obtain ⟨uy, rfl, ry⟩ := rxs.one
  obtain ⟨its, rv, ⟨⟨cls, dd, dt, sl⟩, ho, hc, n, hd⟩, _⟩ := I.tuple hs
  simp only at hc hd
  subst hc hd
  have le := rv.length
  have hjy := (List.getElem?_eq_some_iff.mp hz).1
  have hj : j < its.toArray.size := by rw [List.size_toArray]; omega
  have el : ∀ (m : Nat) (hm : m < its.toArray.size) (z' : V), ys[m]? = some z' → eqU y its.toArray[m] = eqV z' y := fun m hm z' hz' => by
    obtain ⟨u2, hu2, ru2⟩ := rv.get hz'
    obtain ⟨_, e2⟩ := List.getElem?_eq_some_iff.mp hu2
    have e1 : its.toArray[m] = u2 := by simpa using e2
    rw [e1, eqU_of ru2 (flat_at fys hz')]
  refine call_meets PySem.F.slot_tuple_index ⟨_, ho, rfl⟩ PySem.F.entry_tuple_index (PySem.F.args_tuple_index_2 _ _) (TI.tuple_indexAt a its.toArray n dd sl uy (eqU y) j hj ?_ ?_)
    ⟨ho, fun w hw => mem_eqAt ry fy rv fys w (by simpa using hw), ⟨.int (j : Nat), H, I.tok _, ⟨_, rfl⟩, q⟩⟩
  · rw [el j hj z hz]; exact hzj
  · intro m hm hmj
    have hmy : m < ys.length := by omega
    rw [el m hm ys[m] (List.getElem?_eq_getElem hmy)]
    exact hno m _ hmj (List.getElem?_eq_getElem hmy)
def rTCn (K : PySem.W.Frag) : V → List V → Hp → VK → Prop := fun x xs H Q => ∃ (a : Addr) (ys : List V) (y : V), x = V.ref a ∧ xs = [y] ∧ SqT K H a ys ∧ flatV y = true ∧ ys.all flatV = true ∧ Q (.int ((ys.countP fun z => eqV z y : Nat) : Int)) H
theorem count_U {y : V} : ∀ {ys : List V} {us : List Value}, Vals ys us → ys.all flatV = true → us.countP (eqU y) = ys.countP fun z => eqV z y
  | _, _, .nil, _ => rfl
  | y1 :: ys, u :: us, .cons r t, f => by
    rw [List.all_cons, Bool.and_eq_true] at f
    rw [List.countP_cons, List.countP_cons, count_U t f.2, eqU_of r f.1]
theorem mt_tcn {X : Cx} : MtR X "tuple.count" (rTCn X.K) := by
  intro pins s σ H x xs v us Q I rx rxs h
  obtain ⟨a, ys, y, rfl, rfl, hs, fy, fys, q⟩ := h
  cases rx
  obtain ⟨uy, rfl, ry⟩ := rxs.one
  obtain ⟨its, rv, ⟨⟨cls, dd, dt, sl⟩, ho, hc, n, hd⟩, _⟩ := I.tuple hs
  simp only at hc hd
  subst hc hd
  refine call_meets PySem.F.slot_tuple_count ⟨_, ho, rfl⟩ PySem.F.entry_tuple_count (PySem.F.args_tuple_count_2 _ _) (SeqAt.tuple_countAt a its.toArray n dd sl uy (eqU y))
    ⟨ho, fun w hw => mem_eqAt ry fy rv fys w (by simpa using hw), ⟨.int ((ys.countP fun z => eqV z y : Nat) : Int), H, I.tok _, ⟨s.toks, ?_⟩, q⟩⟩
  show Value.int ((its.toArray.toList.countP (eqU y) : Nat) : Int) s.toks = _
  rw [show its.toArray.toList = its by simp, count_U rv fys]
/-! what they give of data -/
def isTup : M → Bool
  | .fl (.val (.tuple _)) => true
  | _ => false
def cMTv (g : List M → Option M) (i : Nat) (os : List OpD) : DE := fun e => match isTup (e.get i) with
  | false => .bad
  | true => cOp g (.v i :: os) e
def cMT (g : List M → Option M) (d : DE) (os : List OpD) : DE := fun e => (d e).bind fun m e1 => match isTup m with
  | false => .bad
  | true => cOp g (.e (fun e => .ok m e) :: os) e1
theorem tup_hole {m : M} (h : isTup m = true) : m.isHole = false := by
  unfold isTup at h
  split at h
  · rfl
  · cases h
theorem tup_rd {Hb H : Hp} {v : V} {m : M} {f : List Addr} (s : Same Hb H) (r : RM K Hb H v m f) (h : isTup m = true) : ∃ a xs, v = .ref a ∧ RdT H a xs := by
  unfold isTup at h
  split at h
  · obtain ⟨a, xs, rfl, h1, _⟩ := dp_tup r.2; exact ⟨a, xs, rfl, h1.same s⟩
  · cases h
theorem se_mtv {r : V → List V → Hp → VK → Prop} {g : List M → Option M} {i : Nat} {t : TA} {os : List OpD} (P : Prim K (rCons r) g) (h : SimA K E t os) : SimE K E (tBMT r (tVar i) t) (cMTv g i os) := by
  intro σ vs Hb H e fr Q w hq
  have h0 : PostE K E σ vs fr Q (match isTup (e.get i) with
    | false => .bad
    | true => cOp g (.v i :: os) e) := hq
  cases ql : isTup (e.get i) with
  | false => rw [ql] at h0; exact h0.elim
  | true =>
    rw [ql] at h0
    obtain ⟨v, hv, f, rm⟩ := w.slot (tup_hole ql)
    refine ⟨v, hv, tup_rd w.same rm ql, ?_⟩
    obtain ⟨v', hv', h2⟩ := sa_v (i := i) h σ vs Hb H e fr _ w (prim_end P h0)
    rw [hv] at hv'
    cases hv'
    exact h2
theorem se_mt {r : V → List V → Hp → VK → Prop} {g : List M → Option M} {to : TE} {d : DE} {t : TA} {os : List OpD} (P : Prim K (rCons r) g) (ho : SimE K E to d) (h : SimA K E t os) : SimE K E (tBMT r to t) (cMT g d os) := by
  intro σ vs Hb H e fr Q w hq
  have h0 : PostE K E σ vs fr Q ((d e).bind fun m e1 => match isTup m with
    | false => .bad
    | true => cOp g (.e (fun e => .ok m e) :: os) e1) := hq
  refine ho.run w (fun m e1 q v Hb1 H1 w1 => ?_) (fun x e1 q => by rw [q] at h0; exact h0) fun q => by rw [q] at h0; exact h0
  rw [q] at h0
  have h2 : PostE K E σ vs fr Q (match isTup m with
    | false => .bad
    | true => cOp g (.e (fun e => .ok m e) :: os) e1) := h0
  cases ql : isTup m with
  | false => rw [ql] at h2; exact h2.elim
  | true =>
    rw [ql] at h2
    obtain ⟨f, rm⟩ := w1.front.head
    refine ⟨tup_rd w1.same rm ql, ?_⟩
    have h3 := prim_end P h2
    have ev : evA (.e (fun e => .ok m e) :: os) e1 = (evA os e1).bind fun ms e2 => .ok (m :: ms) e2 := rfl
    rw [ev] at h3
    refine h σ vs Hb1 H1 e1 _ _ w1 ?_
    cases q2 : evA os e1 with
    | bad => rw [q2] at h3; exact h3.elim
    | exc x e2 => rw [q2] at h3; exact fun c d Hb H w2 hx => h3 c d Hb H w2.drop1 hx
    | ok ms e2 =>
      rw [q2] at h3
      intro us es Hb2 H2 a1 w2
      exact h3 (v :: us) ((some v, m) :: es) Hb2 H2 (.e a1) (w2.perm (by exact List.perm_middle))
def gTIx : List M → Option M
  | [.fl (.val (.tuple ds)), .fl (.val d)] => (match inOk d ds with
    | true => (match ds.findIdx? fun z => PyData.eqv z d with
      | some j => some (.val (.int (j : Nat)))
      | none => none)
    | false => none)
  | _ => none
theorem p_tix : Prim K (rCons (rTIx K)) gTIx := by
  intro us ms m Hb H es Q hg o rp k
  unfold gTIx at hg
  split at hg
  · rename_i ds d
    split at hg
    · rename_i hk
      split at hg
      · rename_i j hj
        cases hg
        obtain ⟨u, v, f1, g1, rfl, r1, r2⟩ := reps2 rp
        obtain ⟨a, xs, rfl, hq, hd⟩ := dp_tup r1.2
        obtain ⟨z1, z2⟩ := Bool.and_eq_true_iff.mp hk
        obtain ⟨hlt, h2, h3⟩ := List.findIdx?_eq_some_iff_getElem.mp hj
        obtain ⟨z, hz, rz⟩ := dpAll_get hd (List.getElem?_eq_getElem hlt)
        have fl : ∀ (i : Nat) (hi : i < ds.length), flatD ds[i] = true := fun i hi => List.all_eq_true.mp z2 _ (List.getElem_mem hi)
        refine ⟨a, xs, v, j, z, rfl, rfl, (hq.same o.1).sq, flat_of r2.2 z1, allFlat_of hd z2, hz, ?_, fun i z' hi hz' => ?_, k _ Hb H (o.val (.int _))⟩
        · rw [eqV_of rz r2.2 (fl j hlt) z1]; exact h2
        · obtain ⟨d', hd', rd'⟩ := dpAll_getV hd hz'
          have hi2 : i < ds.length := by omega
          rw [List.getElem?_eq_getElem hi2] at hd'
          cases hd'
          rw [eqV_of rd' r2.2 (fl i hi2) z1]
          have := h3 i hi
          simpa using this
      · cases hg
    · cases hg
  · cases hg
def gTCn : List M → Option M
  | [.fl (.val (.tuple ds)), .fl (.val d)] => (match inOk d ds with
    | true => some (.val (.int (ds.countP fun z => PyData.eqv z d : Nat)))
    | false => none)
  | _ => none
theorem countP_V {H H' : Hp} {v : V} {d : PyData} (r : Dp K H v d) (h : flatD d = true) : ∀ {xs : List V} {ds : List PyData}, DpAll K H' xs ds → ds.all flatD = true → (xs.countP fun z => eqV z v) = ds.countP fun z => PyData.eqv z d
  | _, _, .nil, _ => rfl
  | _, _, .cons r2 t, h2 => by
    rw [List.all_cons, Bool.and_eq_true] at h2
    rw [List.countP_cons, List.countP_cons, eqV_of r2 r h2.1 h, countP_V r h t h2.2]
theorem p_tcn : Prim K (rCons (rTCn K)) gTCn := by
  intro us ms m Hb H es Q hg o rp k
  unfold gTCn at hg
  split at hg
  · rename_i ds d
    split at hg
    · rename_i hk
      cases hg
      obtain ⟨u, v, f1, g1, rfl, r1, r2⟩ := reps2 rp
      obtain ⟨a, xs, rfl, hq, hd⟩ := dp_tup r1.2
      obtain ⟨z1, z2⟩ := Bool.and_eq_true_iff.mp hk
      refine ⟨a, xs, v, rfl, rfl, (hq.same o.1).sq, flat_of r2.2 z1, allFlat_of hd z2, ?_⟩
      rw [countP_V r2.2 z1 hd z2]
      exact k _ Hb H (o.val (.int _))
    · cases hg
  · cases hg
theorem mt_tixK {X : Cx} (hK : X.K = K := by rfl) : MtR X "tuple.index" (rTIx K) := by subst hK; exact mt_tix
theorem mt_tcnK {X : Cx} (hK : X.K = K := by rfl) : MtR X "tuple.count" (rTCn K) := by subst hK; exact mt_tcn
end
end Sm

/-! SimT: a pair whose second part is an owned list. -/
namespace Sm
open PySem PySem.Spec PyProof.Rows L2
section
variable {K : PySem.W.Frag} {E : XK} {Hb H Hb' H' : Hp}
abbrev prT (c : PyData) (ts : List Tr) : M := .fl (.tr (.tp [.d c, .ls ts]))
theorem rm_pr {v : V} {c : PyData} {ts : List Tr} {f : List Addr} (h : RM K Hb H v (prT c ts) f) : ∃ a b v0 us g, v = .ref a ∧ f = b :: g ∧ RdT Hb a [v0, .ref b] ∧ Dp K Hb v0 c ∧ Hb b = none ∧ H b = some (.lst us) ∧ RTs K Hb H us ts g ∧ b ∉ g := by
  have h' : RT K Hb H v (.tp [.d c, .ls ts]) f := h
  cases h' with
  | tp h1 h2 =>
    cases h2 with
    | cons r t d =>
      cases t with
      | cons r2 t2 d2 =>
        cases t2
        cases r with
        | d r =>
          cases r2 with
          | ls a1 a2 a3 a4 => exact ⟨_, _, _, _, _, rfl, by simp, h1, r, a1, a2, a3, a4⟩
theorem pr_rm {a b : Addr} {v0 : V} {us : List V} {g : List Addr} {c : PyData} {ts : List Tr} (h1 : RdT Hb a [v0, .ref b]) (h2 : Dp K Hb v0 c) (h3 : Hb b = none) (h4 : H b = some (.lst us)) (h5 : RTs K Hb H us ts g) (h6 : b ∉ g) : RM K Hb H (.ref a) (prT c ts) (b :: g) := by
  have := RT.tp (K := K) h1 (.cons (.d h2) (.cons (.ls h3 h4 h5 h6) .nil (fun p _ hq => by cases hq)) (fun p hp => by cases hp))
  have e : ([] : List Addr) ++ ((b :: g) ++ []) = b :: g := by simp
  rw [e] at this
  exact this
theorem leaf_ts : ∀ {us : List V} {ds : List PyData}, DpAll K Hb us ds → RTs K Hb H us (ds.map .d) []
  | _, _, .nil => .nil
  | _, _, .cons r t => by
    have := RTs.cons (K := K) (H := H) (.d r) (leaf_ts t) (fun p hp => by cases hp)
    simpa using this
theorem rts_snoc {v : V} {d : PyData} (r : Dp K Hb v d) : ∀ {us : List V} {ts : List Tr} {g : List Addr}, RTs K Hb H us ts g → RTs K Hb H (us ++ [v]) (ts ++ [.d d]) g
  | _, _, _, .nil => by
    have := RTs.cons (K := K) (H := H) (.d r) .nil (fun p hp => by cases hp)
    simpa using this
  | _, _, _, .cons a t dd => .cons a (rts_snoc r t) dd
theorem rts_len : ∀ {us : List V} {ts : List Tr} {g : List Addr}, RTs K Hb H us ts g → us.length = ts.length
  | _, _, _, .nil => rfl
  | _, _, _, .cons _ t _ => congrArg Nat.succ (rts_len t)
/-! ### the display -/
def cPr (a b : DE) : DE := fun e => (evA [.e a, .e b] e).bind fun ms e1 => match ms with
  | [.fl (.val c), .fl (.lst ds)] => .ok (prT c (ds.map .d)) e1
  | _ => .bad
theorem se_pr {t : TA} {a b : DE} (h : SimA K E t [.e a, .e b]) : SimE K E (tTupN t) (cPr a b) := by
  intro σ vs Hb H e fr Q w hq
  refine h σ vs Hb H e fr _ w ?_
  have h0 : PostE K E σ vs fr Q ((evA [.e a, .e b] e).bind fun ms e1 => match ms with
    | [.fl (.val c), .fl (.lst ds)] => .ok (prT c (ds.map .d)) e1
    | _ => .bad) := hq
  cases qa : evA [.e a, .e b] e with
  | bad => rw [qa] at h0; exact h0.elim
  | exc x e1 => rw [qa] at h0; exact h0
  | ok ms e1 =>
    rw [qa] at h0
    intro us es Hb1 H1 a1 w1
    cases a1 with
    | e a1 =>
      cases a1 with
      | e a1 =>
        cases a1
        rename_i u0 m0 u1 m1
        have h1 : PostE K E σ vs fr Q (match [m0, m1] with
          | [.fl (.val c), .fl (.lst ds)] => RE.ok (prT c (ds.map .d)) e1
          | _ => .bad) := h0
        split at h1
        · rename_i c ds q
          cases q
          refine ⟨Nat.le_trans (by simp) (line_big (n := 1000) (by omega)), fun p ob hb hp => h1 _ (upd Hb1 p (.frz ob (.tup [u0, u1]))) _ ?_⟩
          have o := w1.front
          obtain ⟨f0, r0⟩ := o.head
          have hd : Dp K Hb1 u0 c := r0.2
          have w2 : Wld K Hb1 H1 σ vs e1 ((some u1, .lst ds) :: fr) := w1.drop1
          have gr := grow_both (o := .frz ob (.tup [u0, u1])) w2.same hp
          have w3 := w2.grow gr
          have o3 := w3.front
          obtain ⟨_, b, xs, rfl, _, e3, e4, e5⟩ := o3.head
          refine w3.drop1.back (o3.swap fun f r => ⟨[b], ?_, pr_rm (K := K) ⟨ob, hb, upd_same⟩ (Dp.same gr.bb hd) e3 e4 (leaf_ts e5) (by simp), fun p hp => .inl ?_⟩)
          · exact ⟨fun _ _ q => q, fun _ _ q _ => q, w3.same, fun _ h1 h2 => absurd h1 h2⟩
          · obtain ⟨b', xs', z1, z2, _⟩ := r
            cases z1
            rw [z2]; exact hp
        · exact h1.elim
/-! ### x[1].append(..) of what stands still -/
/-- what is evaluated lets all that stands be -/
def ExtE (t : TE) : Prop := ∀ σ H Q, t σ H (fun v H1 => Same H H1 → Q v H1) → t σ H Q
def cPrApp (i : Nat) (d : PyData) : DE := fun e => match e.get i with
  | .fl (.tr (.tp [.d c, .ls ts])) => (match decide (ts.length < 16777216) with
    | true => .ok (.val .none) (e.put i (prT c (ts ++ [.d d])))
    | false => .bad)
  | _ => .bad
theorem put_own {e : Env} {i : Nat} {m m' : M} (q1 : e.get i = m) (hm : m.isHole = false) : (e.put i .hole).put i m' = e.put i m' := by
  unfold Env.put
  cases qs : getS e.s i with
  | own x =>
    have hi : i < e.s.length := by
      apply Classical.byContradiction; intro z
      have : e.get i = .hole := by unfold Env.get; rw [getS_out (Nat.le_of_not_lt z)]
      rw [this] at q1; rw [← q1] at hm; cases hm
    have : getS (e.s.set i (.own .hole)) i = .own .hole := getS_set hi
    simp only [this, List.set_set]
  | bor k => simp only [qs, List.set_set]
theorem se_prApp {i : Nat} {t : TE} {d : DE} {dd : PyData} (h : SimE K E t d) (hx : ExtE t) (hd : ∀ e, d e = .ok (.val dd) e) :
    SimE K E (tBM K "list" rAppend (tOp (rIx K) (tVar i) (tC (.int 1))) (tCons t tNil)) (cPrApp i dd) := by
  intro σ vs Hb H e fr Q w hq
  have h0 : PostE K E σ vs fr Q (match e.get i with
    | .fl (.tr (.tp [.d c, .ls ts])) => (match decide (ts.length < 16777216) with
      | true => .ok (.val .none) (e.put i (prT c (ts ++ [.d dd])))
      | false => .bad)
    | _ => .bad) := hq
  split at h0
  · rename_i c ts qg
    cases qz : decide (ts.length < 16777216) with
    | false => rw [qz] at h0; exact h0.elim
    | true =>
      rw [qz] at h0
      have hz : ts.length < 16777216 := of_decide_eq_true qz
      have hh : (e.get i).isHole = false := by rw [qg]; rfl
      obtain ⟨v, hv, f, rm⟩ := w.slot hh
      rw [qg] at rm
      obtain ⟨a, b, v0, us, g, rfl, rfl, r1, r2, r3, r4, r5, r6⟩ := rm_pr rm
      refine ⟨.ref a, hv, ?_⟩
      show rIx K (.ref a) (.int 1) H _
      have ra : RdT H a [v0, .ref b] := r1.same w.same
      refine .inr (.inl ⟨a, [v0, .ref b], 1, .ref b, rfl, rfl, ra.sq, rfl, ?_, ?_⟩)
      · exact .inl ⟨rfl, us, .inl (.inl r4)⟩
      · show t σ H fun x H1 => rAppend (.ref b) [x] H1 Q
        refine hx σ H _ ?_
        refine h σ vs Hb H e fr _ w ?_
        rw [hd e]
        intro u Hb1 H1 w1 hs
        obtain ⟨v', hv', w2⟩ := w1.take (i := i) hh
        rw [hv] at hv'
        have ev : v' = .ref a := (Option.some.inj (Option.some.inj hv')).symm
        subst ev
        rw [qg] at w2
        have o2 := w2.front
        obtain ⟨f0, ru⟩ := w1.front.head
        have hdu : Dp K Hb1 u dd := ru.2
        obtain ⟨f2, rm2⟩ := o2.head
        obtain ⟨a', b', v0', us', g', z1, rfl, s1, s2, s3, s4, s5, s6⟩ := rm_pr rm2
        cases z1
        have hab : [v0', V.ref b'] = [v0, V.ref b] := by
          obtain ⟨ob1, _, k1⟩ := ra
          obtain ⟨ob2, _, k2⟩ := s1.same w1.same
          have := (hs _ _ k1).symm.trans k2
          cases this
          rfl
        cases hab
        refine ⟨b, us', u, rfl, rfl, s4, by rw [rts_len s5, sizeLine_eq]; exact hz, h0 .non Hb1 _ ?_⟩
        have o3 : Own K Hb1 (upd H1 b (.lst (us' ++ [u]))) ((some (.ref a), prT c (ts ++ [.d dd])) :: (e.put i .hole).ents σ vs ((some u, .val dd) :: fr)) := by
          refine o2.swap fun f r => ?_
          obtain ⟨a2, b2, v2, us2, g2, y1, rfl, t1, t2, t3, t4, t5, t6⟩ := rm_pr r
          cases y1
          have hb2 : [v2, V.ref b2] = [v0, V.ref b] := by
            obtain ⟨ob1, _, k1⟩ := s1
            obtain ⟨ob2, _, k2⟩ := t1
            have := k1.symm.trans k2
            cases this
            rfl
          cases hb2
          have : us2 = us' := by
            have := s4.symm.trans t4
            cases this; rfl
          subst this
          have kp : Keep [b] Hb1 H1 Hb1 (upd H1 b (.lst (us2 ++ [u]))) := ⟨fun _ _ q => q, fun p o q n => by rw [upd_ne (fun z => n (by rw [z]; simp))]; exact q, fun p o q => by rw [upd_ne (fun z => by rw [z, t3] at q; cases q)]; exact w1.same _ _ q, fun _ h1 h2 => absurd h1 h2⟩
          refine ⟨b :: g2, ⟨kp.bb, fun p o q n => kp.hh p o q (fun z => n (by simp at z; rw [z]; simp)), kp.sub, fun _ h1 h2 => absurd h1 h2⟩, pr_rm t1 t2 t3 upd_same (rts_snoc hdu (RTs.keep kp t5 (fun p hp hq => t6 (by simp at hp; rw [← hp]; exact hq)))) t6, fun p hp => .inl hp⟩
        have w3 : Wld K Hb1 (upd H1 b (.lst (us' ++ [u]))) σ vs (e.put i .hole) ((some (.ref a), prT c (ts ++ [.d dd])) :: ((some u, .val dd) :: fr)) :=
          (w2.drop1.fr1 (o3.tail)).back o3
        have w4 := w3.put (i := i) (by rw [hv])
        rw [put_own qg rfl] at w4
        exact w4.drop1.back (w4.drop1.own.val .non) 
  · exact h0.elim
theorem ext_tup3 {a b c : V} : ExtE (tTupN (tCons (tC a) (tCons (tC b) (tCons (tC c) tNil)))) := fun σ H Q h =>
  ⟨h.1, fun p o hb hp => h.2 p o hb hp fun q u e => by rw [upd_ne (fun z => by rw [z, hp] at e; cases e)]; exact e⟩
/-- from here on slot i stands still -/
def cFrz (i : Nat) (d : DS) : DS := fun e => match (e.get i).isHole, (e.get i).fz with
  | false, some x => d (e.put i (.val x))
  | _, _ => .bad
theorem ss_frz {i : Nat} {t : TS} {d : DS} (h : SimS K E t d) : SimS K E t (cFrz i d) := by
  intro σ vs Hb H e fr D w hq
  have h0 : PostS K E vs fr D (match (e.get i).isHole, (e.get i).fz with
    | false, some x => d (e.put i (.val x))
    | _, _ => .bad) := hq
  cases q1 : (e.get i).isHole with
  | true => rw [q1] at h0; exact h0.elim
  | false =>
    cases q2 : (e.get i).fz with
    | none => rw [q1, q2] at h0; exact h0.elim
    | some x =>
      rw [q1, q2] at h0
      obtain ⟨v, hv, w2⟩ := w.take q1
      obtain ⟨Hb', o⟩ := w2.front.freeze q2
      have w3 := w2.drop1.back o
      have w4 := w3.put (i := i) (by rw [hv])
      rw [put_own rfl q1] at w4
      exact h σ vs Hb' H _ fr D w4 h0
end
end Sm

/-! MP: plain facts of the denotations: what the built-ins give on clean data, loops. -/
namespace Mp
open PySem PySem.Spec Sm
/-- clean data: no truth values, no dicts, n deep -/
def cl : Nat → PyData → Bool
  | _, .none => true
  | _, .int _ => true
  | _, .str x => PyData.strOk x
  | n + 1, .list xs => xs.all (cl n)
  | n + 1, .tuple xs => xs.all (cl n)
  | _, _ => false
theorem cl_int {n : Nat} {i : Int} : cl n (.int i) = true := by cases n <;> rfl
theorem cl_none {n : Nat} : cl n .none = true := by cases n <;> rfl
theorem cl_str {n : Nat} {x : Str} (h : PyData.strOk x = true) : cl n (.str x) = true := by cases n <;> exact h
theorem cl_tup {n : Nat} {xs : List PyData} : cl (n + 1) (.tuple xs) = xs.all (cl n) := rfl
theorem cl_lst {n : Nat} {xs : List PyData} : cl (n + 1) (.list xs) = xs.all (cl n) := rfl
theorem layAll {n : Nat} (ih : ∀ d, cl n d = true → d.canLay0 = true ∧ d.depth ≤ n) : ∀ xs : List PyData, xs.all (cl n) = true → PyData.canLayAll0 xs = true ∧ PyData.depthAll xs ≤ n
  | [], _ => by simp [PyData.canLayAll0, PyData.depthAll]
  | x :: xs, h => by
    have h' := Bool.and_eq_true_iff.mp (by simpa using h : (cl n x && xs.all (cl n)) = true)
    have h1 := ih x h'.1
    have h2 := layAll ih xs h'.2
    refine ⟨?_, ?_⟩
    · simp only [PyData.canLayAll0, h1.1, h2.1, Bool.and_self]
    · simp only [PyData.depthAll]; have := h1.2; have := h2.2; omega
theorem cl_lay : ∀ n d, cl n d = true → d.canLay0 = true ∧ d.depth ≤ n := by
  intro n
  induction n with
  | zero => intro d h; cases d <;> simp_all [cl, PyData.canLay0, PyData.depth]
  | succ n ih =>
    intro d h
    cases d with
    | none => simp [PyData.canLay0, PyData.depth]
    | int i => simp [PyData.canLay0, PyData.depth]
    | str x => simp only [cl] at h; simp [PyData.canLay0, PyData.depth, h]
    | bool b => simp [cl] at h
    | dict b => simp [cl] at h
    | list xs =>
      obtain ⟨h1, h2⟩ := layAll ih xs h
      simp only [PyData.canLay0, PyData.depth, h1, true_and]; omega
    | tuple xs =>
      obtain ⟨h1, h2⟩ := layAll ih xs h
      simp only [PyData.canLay0, PyData.depth, h1, true_and]; omega
theorem eqvAll_iff {n k : Nat} (ih : ∀ d e, cl n d = true → cl k e = true → (PyData.eqv d e = true ↔ d = e)) : ∀ xs ys : List PyData, xs.all (cl n) = true → ys.all (cl k) = true → (PyData.eqvAll xs ys = true ↔ xs = ys)
  | [], [], _, _ => by simp [PyData.eqvAll]
  | [], _ :: _, _, _ => by simp [PyData.eqvAll]
  | _ :: _, [], _, _ => by simp [PyData.eqvAll]
  | x :: xs, y :: ys, h1, h2 => by
    have a := Bool.and_eq_true_iff.mp (by simpa using h1 : (cl n x && xs.all (cl n)) = true)
    have b := Bool.and_eq_true_iff.mp (by simpa using h2 : (cl k y && ys.all (cl k)) = true)
    simp only [PyData.eqvAll, Bool.and_eq_true, List.cons.injEq]
    rw [ih x y a.1 b.1, eqvAll_iff ih xs ys a.2 b.2]
theorem cl_eqv : ∀ n k d e, cl n d = true → cl k e = true → (PyData.eqv d e = true ↔ d = e) := by
  intro n
  induction n with
  | zero => intro k d e h1 h2; cases d <;> cases e <;> first | (simp [cl] at h1; done) | (cases k <;> simp [cl] at h2; done) | simp [PyData.eqv]
  | succ n ih =>
    intro k d e h1 h2
    cases d with
    | bool b => simp [cl] at h1
    | dict b => simp [cl] at h1
    | none => cases e <;> first | (cases k <;> simp [cl] at h2; done) | simp [PyData.eqv]
    | int i => cases e <;> first | (cases k <;> simp [cl] at h2; done) | simp [PyData.eqv]
    | str i => cases e <;> first | (cases k <;> simp [cl] at h2; done) | simp [PyData.eqv]
    | list xs =>
      cases e with
      | list ys =>
        cases k with
        | zero => simp [cl] at h2
        | succ k => simp only [PyData.eqv, PyData.list.injEq]; exact eqvAll_iff (fun d e => ih k d e) xs ys h1 h2
      | _ => first | (cases k <;> simp [cl] at h2; done) | simp [PyData.eqv]
    | tuple xs =>
      cases e with
      | tuple ys =>
        cases k with
        | zero => simp [cl] at h2
        | succ k => simp only [PyData.eqv, PyData.tuple.injEq]; exact eqvAll_iff (fun d e => ih k d e) xs ys h1 h2
      | _ => first | (cases k <;> simp [cl] at h2; done) | simp [PyData.eqv]
theorem cl_shaped {d : PyData} (h : cl 60 d = true) : SeqAt.shaped d = true := by
  obtain ⟨h1, h2⟩ := cl_lay _ _ h
  unfold SeqAt.shaped
  rw [h1, Bool.true_and]
  exact decide_eq_true (by omega)
theorem eqOk_cl {d e : PyData} (h1 : cl 60 d = true) (h2 : cl 60 e = true) : eqOk d e = true := by
  unfold eqOk
  rw [cl_shaped h1, cl_shaped h2]; simp
theorem gEq_cl {a b : M} {d e : PyData} (ha : a.view = some d) (hb : b.view = some e) (h1 : cl 60 d = true) (h2 : cl 60 e = true) : gEq [a, b] = some (.val (.bool (PyData.eqv d e))) := by
  simp only [gEq, ha, hb, eqOk_cl h1 h2]
theorem gNe_cl {a b : M} {d e : PyData} (ha : a.view = some d) (hb : b.view = some e) (h1 : cl 60 d = true) (h2 : cl 60 e = true) : gNe [a, b] = some (.val (.bool (!PyData.eqv d e))) := by
  simp only [gNe, ha, hb, eqOk_cl h1 h2]
theorem eqv_dec {d e : PyData} {p : Prop} [Decidable p] (h1 : cl 60 d = true) (h2 : cl 60 e = true) (h : d = e ↔ p) : PyData.eqv d e = decide p := by
  rw [Bool.eq_iff_iff, cl_eqv 60 60 d e h1 h2, h]; simp
/-! ### built-ins -/
theorem kit_ii : L2.kitB "int" "int" = some true := by decide +kernel
theorem kit_ib : L2.kitB "int" "bool" = some false := by decide +kernel
theorem kit_tt : L2.kitB "tuple" "tuple" = some true := by decide +kernel
theorem kit_ni : L2.kitB "NoneType" "int" = some false := by decide +kernel
theorem kit_ll : L2.kitB "list" "list" = some true := by decide +kernel
theorem isi_int {i : Int} : gIsi "int" [.val (.int i), .raw (.ty "int")] = some (.val (.bool true)) := by
  simp [gIsi, M.view, tyD, kit_ii]
theorem isi_bool {i : Int} : gIsi "bool" [.val (.int i), .raw (.ty "bool")] = some (.val (.bool false)) := by
  simp [gIsi, M.view, tyD, kit_ib]
theorem isi_tup {ds : List PyData} : gIsi "tuple" [.val (.tuple ds), .raw (.ty "tuple")] = some (.val (.bool true)) := by
  simp [gIsi, M.view, tyD, kit_tt]
theorem isi_lst {ds : List PyData} : gIsi "list" [.val (.list ds), .raw (.ty "list")] = some (.val (.bool true)) := by
  simp [gIsi, M.view, tyD, kit_ll]
theorem ix_nat {ds : List PyData} {i : Nat} (h : i < ds.length) : gIx [.val (.tuple ds), .val (.int i)] = some (.val ds[i]) := by
  have : L2.atI ds (i : Int) = some ds[i] := by
    unfold L2.atI L2.ixN
    rw [if_pos (by omega), if_pos (by omega)]
    simp [h]
  show (match seqOf (.val (.tuple ds)) with
    | some ds => (L2.atI ds i).map M.val
    | none => none) = _
  show (L2.atI ds i).map M.val = _
  rw [this]; rfl
theorem ix_natL {ds : List PyData} {i : Nat} (h : i < ds.length) : gIx [.val (.list ds), .val (.int i)] = some (.val ds[i]) := by
  have : L2.atI ds (i : Int) = some ds[i] := by
    unfold L2.atI L2.ixN
    rw [if_pos (by omega), if_pos (by omega)]
    simp [h]
  show (L2.atI ds i).map M.val = _
  rw [this]; rfl
theorem ix_natM {ds : List PyData} {i : Nat} (h : i < ds.length) : gIx [.lst ds, .val (.int i)] = some (.val ds[i]) := by
  have : L2.atI ds (i : Int) = some ds[i] := by
    unfold L2.atI L2.ixN
    rw [if_pos (by omega), if_pos (by omega)]
    simp [h]
  show (L2.atI ds i).map M.val = _
  rw [this]; rfl
theorem len_tup {ds : List PyData} : gLen [.val (.tuple ds)] = some (.val (.int ds.length)) := rfl
theorem len_list {ds : List PyData} : gLen [.val (.list ds)] = some (.val (.int ds.length)) := rfl
theorem len_lst {ds : List PyData} : gLen [.lst ds] = some (.val (.int ds.length)) := rfl
theorem g_sub {i j : Int} : (gI fun i j => i - j) [.val (.int i), .val (.int j)] = some (.val (.int (i - j))) := rfl
theorem g_neg {i : Int} : (gU fun i => -i) [.val (.int i)] = some (.val (.int (-i))) := rfl
theorem g_add {i j : Int} : gAdd [.val (.int i), .val (.int j)] = some (.val (.int (i + j))) := rfl
theorem g_lt {i j : Int} : (gIB fun i j => decide (i < j)) [.val (.int i), .val (.int j)] = some (.val (.bool (decide (i < j)))) := rfl
theorem g_gt {i j : Int} : (gIB fun i j => decide (j < i)) [.val (.int i), .val (.int j)] = some (.val (.bool (decide (j < i)))) := rfl
theorem g_le {i j : Int} : (gIB fun i j => decide (i ≤ j)) [.val (.int i), .val (.int j)] = some (.val (.bool (decide (i ≤ j)))) := rfl
theorem g_ge {i j : Int} : (gIB fun i j => decide (j ≤ i)) [.val (.int i), .val (.int j)] = some (.val (.bool (decide (j ≤ i)))) := rfl
theorem g_mul {i j : Int} (h : i.natAbs < 9223372036854775808) : gMulV [.val (.int i), .val (.int j)] = some (.val (.int (i * j))) := by
  have : okMul i j = true := by unfold okMul; exact decide_eq_true (.inl h)
  simp [gMulV, gMul, Sm.orM, gII, this]
theorem g_mulR {i j : Int} (h : j.natAbs < 9223372036854775808) : gMulV [.val (.int i), .val (.int j)] = some (.val (.int (i * j))) := by
  have : okMul i j = true := by unfold okMul; exact decide_eq_true (.inr h)
  simp [gMulV, gMul, Sm.orM, gII, this]
theorem g_div {i j : Int} (h : 0 < j ∧ j.natAbs < 1073741824) : (gII okDiv fun i j => .int (i / j)) [.val (.int i), .val (.int j)] = some (.val (.int (i / j))) := by
  have : okDiv i j = true := by unfold okDiv; exact decide_eq_true h
  simp [gII, this]
theorem g_mod {i j : Int} (h : 0 < j) : (gII okMod fun i j => .int (i % j)) [.val (.int i), .val (.int j)] = some (.val (.int (i % j))) := by
  have : okMod i j = true := by unfold okMod; exact decide_eq_true h
  simp [gII, this]
theorem g_pow {i j : Int} (h : 0 ≤ j ∧ j.natAbs ≤ 1000000 ∧ i.natAbs < 18446744073709551616) : (gII okPow fun i j => .int (i ^ j.toNat)) [.val (.int i), .val (.int j)] = some (.val (.int (i ^ j.toNat))) := by
  have : okPow i j = true := by unfold okPow; exact decide_eq_true h
  simp only [gII, this]
theorem eq_int {i j : Int} : gEq [.val (.int i), .val (.int j)] = some (.val (.bool (decide (i = j)))) := by
  rw [gEq_cl rfl rfl cl_int cl_int, eqv_dec (p := i = j) cl_int cl_int (by simp)]
theorem ne_int {i j : Int} : gNe [.val (.int i), .val (.int j)] = some (.val (.bool (!decide (i = j)))) := by
  rw [gNe_cl rfl rfl cl_int cl_int, eqv_dec (p := i = j) cl_int cl_int (by simp)]
theorem isN_int {i : Int} : gIsN [.val (.int i), .val .none] = some (.val (.bool false)) := rfl
theorem isN_none : gIsN [.val .none, .val .none] = some (.val (.bool true)) := rfl
theorem notN_int {i : Int} : gNotN [.val (.int i), .val .none] = some (.val (.bool true)) := rfl
theorem notN_none : gNotN [.val .none, .val .none] = some (.val (.bool false)) := rfl
theorem isN_tup {i : List PyData} : gIsN [.val (.tuple i), .val .none] = some (.val (.bool false)) := rfl
theorem notN_tup {i : List PyData} : gNotN [.val (.tuple i), .val .none] = some (.val (.bool true)) := rfl
/-- slices of a tuple by two numbers -/
theorem sl_nat {ds : List PyData} {a b : Nat} (h1 : a ≤ b) (h2 : b ≤ ds.length) : gSl (some (a : Int)) (some (b : Int)) [.val (.tuple ds)] = some (.val (.tuple ((ds.drop a).take (b - a)))) := by
  have : cutD ds (some (a : Int)) (some (b : Int)) = (ds.drop a).take (b - a) := by
    unfold cutD
    rw [HT.sIx_nat, HT.sIx_nat, Nat.min_eq_left h2, Nat.min_eq_left (by omega)]
  show some (M.val (.tuple (cutD ds (some (a : Int)) (some (b : Int))))) = _
  rw [this]
theorem sl_from {ds : List PyData} {a : Nat} (h1 : a ≤ ds.length) : gSl (some (a : Int)) none [.val (.tuple ds)] = some (.val (.tuple (ds.drop a))) := by
  have : cutD ds (some (a : Int)) none = ds.drop a := by
    unfold cutD
    rw [HT.sIx_nat, HT.sIx_none, Nat.min_eq_left h1, List.take_of_length_le (by simp)]
  show some (M.val (.tuple (cutD ds (some (a : Int)) none))) = _
  rw [this]
theorem sl_to {ds : List PyData} {b : Nat} (h2 : b ≤ ds.length) : gSl none (some (b : Int)) [.val (.tuple ds)] = some (.val (.tuple (ds.take b))) := by
  have : cutD ds none (some (b : Int)) = ds.take b := by
    unfold cutD
    rw [HT.sIx_nat, HT.sIx_none, Nat.min_eq_left h2]; simp
  show some (M.val (.tuple (cutD ds none (some (b : Int))))) = _
  rw [this]
/-! ### comprehensions, loops -/
theorem lcD_eq {g : DG} {tst : DT} {elt : DE} {own : List Nat} {e : Sm.Env} (t : PyData → Bool) (f : PyData → PyData) : ∀ (ds acc : List PyData),
    (∀ d ∈ ds, ∃ e1 e2, g d e = some e1 ∧ tst e1 = .ok (t d) e2 ∧ (t d = true → ∃ e3, elt e2 = .ok (.val (f d)) e3 ∧ e3.wipe own = e) ∧ (t d = false → e2.wipe own = e)) →
    acc.length + ds.length ≤ 16777216 → lcD g tst elt own ds e acc = .ok (acc ++ (ds.filter t).map f) e
  | [], acc, _, _ => by simp [lcD]
  | d :: ds, acc, h, hl => by
    obtain ⟨e1, e2, h1, h2, h3, h4⟩ := h d (by simp)
    have hr := fun acc => lcD_eq t f ds acc (fun d hd => h d (List.mem_cons_of_mem _ hd))
    rw [lcD_cons, h1]
    dsimp only
    rw [h2]
    cases q : t d with
    | true =>
      obtain ⟨e3, h5, h6⟩ := h3 q
      dsimp only
      rw [h5]
      dsimp only
      rw [decide_eq_true (by simp at hl; omega : acc.length < 16777216)]
      dsimp only
      rw [h6, hr _ (by simp at hl ⊢; omega), List.filter_cons_of_pos q]
      simp
    | false =>
      dsimp only
      rw [h4 q, hr _ (by simp at hl ⊢; omega), List.filter_cons_of_neg (by simp [q])]
theorem forD_run {g : DG} {body : DS} (P : Nat → Sm.Env → Prop) {ds : List PyData} (h : ∀ i (hi : i < ds.length) e, P i e → ∃ e1 e2, g ds[i] e = some e1 ∧ (body e1 = .nx e2 ∨ body e1 = .ct e2) ∧ P (i + 1) e2) {e : Sm.Env} (h0 : P 0 e) : ∃ e', forD g body ds e = .nx e' ∧ P ds.length e' := by
  have key : ∀ (ds' : List PyData) (k : Nat) e, k + ds'.length = ds.length → ds.drop k = ds' → P k e → ∃ e', forD g body ds' e = .nx e' ∧ P ds.length e' := by
    intro ds'
    induction ds' with
    | nil => intro k e hk hd p; exact ⟨e, rfl, by simp at hk; rw [← hk]; exact p⟩
    | cons d ds' ih =>
      intro k e hk hd p
      have hlt : k < ds.length := by simp at hk; omega
      obtain ⟨e1, e2, h1, h2, h3⟩ := h k hlt e p
      have hdk : ds[k] = d := by
        have := List.drop_eq_getElem_cons hlt
        rw [hd] at this
        exact (List.cons.inj this).1.symm
      have hdd : ds.drop (k + 1) = ds' := by
        have := List.drop_eq_getElem_cons hlt
        rw [hd] at this
        exact (List.cons.inj this).2.symm
      rw [hdk] at h1
      obtain ⟨e', h4, h5⟩ := ih (k + 1) e2 (by simp at hk; omega) hdd h3
      refine ⟨e', ?_, h5⟩
      show (match g d e with
        | none => RS.bad
        | some e1 => match body e1 with
          | .nx e2 => forD g body ds' e2
          | .ct e2 => forD g body ds' e2
          | .brk e2 => .nx e2
          | .ret m e2 => .ret m e2
          | .exc x e2 => .exc x e2
          | .bad => .bad) = _
      rw [h1]
      dsimp only
      rcases h2 with h2 | h2 <;> rw [h2] <;> exact h4
  exact key ds 0 e (by simp) (by simp) h0
/-- a loop that goes on to the k-th item and returns there -/
theorem forD_ret {g : DG} {body : DS} (P : Nat → Sm.Env → Prop) {ds : List PyData} {k : Nat} (hk : k < ds.length) (h : ∀ i (hi : i < k) e, P i e → ∃ e1 e2, g ds[i] e = some e1 ∧ (body e1 = .nx e2 ∨ body e1 = .ct e2) ∧ P (i + 1) e2) {e : Sm.Env} (h0 : P 0 e) {R : RS → Prop}
    (hr : ∀ e, P k e → ∃ e1 m e2, g ds[k] e = some e1 ∧ body e1 = .ret m e2 ∧ R (.ret m e2)) : R (forD g body ds e) := by
  have e0 : ds = ds.take k ++ ds[k] :: ds.drop (k + 1) := by
    rw [← List.drop_eq_getElem_cons hk, List.take_append_drop]
  have app : ∀ (xs ys : List PyData) e e', forD g body xs e = .nx e' → forD g body (xs ++ ys) e = forD g body ys e' ∨ forD g body (xs ++ ys) e = .nx e' := by
    intro xs ys
    induction xs with
    | nil => intro e e' h; cases h; exact .inl rfl
    | cons d xs ih =>
      intro e e' h
      simp only [forD, List.cons_append] at h ⊢
      cases q : g d e with
      | none => rw [q] at h; cases h
      | some e1 =>
        rw [q] at h
        dsimp only at h ⊢
        cases q2 : body e1 with
        | nx e2 => rw [q2] at h; exact ih _ _ h
        | ct e2 => rw [q2] at h; exact ih _ _ h
        | brk e2 => rw [q2] at h; cases h; exact .inr rfl
        | ret m e2 => rw [q2] at h; cases h
        | exc m e2 => rw [q2] at h; cases h
        | bad => rw [q2] at h; cases h
  have key : ∀ (n : Nat) (hn : n ≤ k) e, P (k - n) e → R (forD g body (ds.drop (k - n)) e) := by
    intro n
    induction n with
    | zero =>
      intro hn e p
      obtain ⟨e1, m, e2, h1, h2, h3⟩ := hr e p
      rw [Nat.sub_zero, List.drop_eq_getElem_cons hk]
      show R (match g ds[k] e with
        | none => RS.bad
        | some e1 => match body e1 with
          | .nx e2 => forD g body _ e2
          | .ct e2 => forD g body _ e2
          | .brk e2 => .nx e2
          | .ret m e2 => .ret m e2
          | .exc x e2 => .exc x e2
          | .bad => .bad)
      rw [h1]
      dsimp only
      rw [h2]
      exact h3
    | succ n ih =>
      intro hn e p
      have hlt : k - (n + 1) < ds.length := by omega
      obtain ⟨e1, e2, h1, h2, h3⟩ := h (k - (n + 1)) (by omega) e p
      rw [List.drop_eq_getElem_cons hlt]
      have hs : k - (n + 1) + 1 = k - n := by omega
      rw [hs] at h3 ⊢
      show R (match g ds[k - (n + 1)] e with
        | none => RS.bad
        | some e1 => match body e1 with
          | .nx e2 => forD g body (ds.drop (k - n)) e2
          | .ct e2 => forD g body (ds.drop (k - n)) e2
          | .brk e2 => .nx e2
          | .ret m e2 => .ret m e2
          | .exc x e2 => .exc x e2
          | .bad => .bad)
      rw [h1]
      dsimp only
      rcases h2 with h2 | h2 <;> rw [h2] <;> exact ih (by omega) e2 h3
  have := key k (Nat.le_refl _) e (by simpa using h0)
  simpa using this
theorem lcD_map {α : Type} {g : DG} {tst : DT} {elt : DE} {own : List Nat} {e : Sm.Env} (enc : α → PyData) (t : α → Bool) (f : α → PyData) : ∀ (l : List α) (acc : List PyData),
    (∀ a ∈ l, ∃ e1 e2, g (enc a) e = some e1 ∧ tst e1 = .ok (t a) e2 ∧ (t a = true → ∃ e3, elt e2 = .ok (.val (f a)) e3 ∧ e3.wipe own = e) ∧ (t a = false → e2.wipe own = e)) →
    acc.length + l.length ≤ 16777216 → lcD g tst elt own (l.map enc) e acc = .ok (acc ++ (l.filter t).map f) e
  | [], acc, _, _ => by simp [lcD]
  | d :: ds, acc, h, hl => by
    obtain ⟨e1, e2, h1, h2, h3, h4⟩ := h d (by simp)
    have hr := fun acc => lcD_map enc t f ds acc (fun d hd => h d (List.mem_cons_of_mem _ hd))
    rw [List.map_cons, lcD_cons, h1]
    dsimp only
    rw [h2]
    cases q : t d with
    | true =>
      obtain ⟨e3, h5, h6⟩ := h3 q
      dsimp only
      rw [h5]
      dsimp only
      rw [decide_eq_true (by simp at hl; omega : acc.length < 16777216)]
      dsimp only
      rw [h6, hr _ (by simp at hl ⊢; omega), List.filter_cons_of_pos q]
      simp
    | false =>
      dsimp only
      rw [h4 q, hr _ (by simp at hl ⊢; omega), List.filter_cons_of_neg (by simp [q])]
theorem lcD_mapY {α : Type} {g : DG} {elt : DE} {own : List Nat} {e : Sm.Env} (enc : α → PyData) (f : α → PyData) (l : List α) (acc : List PyData)
    (h : ∀ a ∈ l, ∃ e1 e3, g (enc a) e = some e1 ∧ elt e1 = .ok (.val (f a)) e3 ∧ e3.wipe own = e) (hl : acc.length + l.length ≤ 16777216) : lcD g cYes elt own (l.map enc) e acc = .ok (acc ++ l.map f) e := by
  have := lcD_map (g := g) (tst := cYes) (elt := elt) (own := own) (e := e) enc (fun _ => true) f l acc (fun a ha => by
    obtain ⟨e1, e3, h1, h2, h3⟩ := h a ha
    exact ⟨e1, e1, h1, rfl, fun _ => ⟨e3, h2, h3⟩, fun z => by cases z⟩) hl
  rw [this, List.filter_eq_self.mpr (fun _ _ => rfl)]
/-- a comprehension whose element changes what it finds -/
theorem lcD_run {g : DG} {elt : DE} {own : List Nat} (P : Nat → Sm.Env → List PyData → Prop) {ds : List PyData} (hz : ds.length ≤ 16777216)
    (h : ∀ i (hi : i < ds.length) e acc, P i e acc → acc.length = i ∧ ∃ e1 y e3, g ds[i] e = some e1 ∧ elt e1 = .ok (.val y) e3 ∧ P (i + 1) (e3.wipe own) (acc ++ [y])) {e : Sm.Env} (h0 : P 0 e []) :
    ∃ e' acc, lcD g cYes elt own ds e [] = .ok acc e' ∧ P ds.length e' acc := by
  have key : ∀ (ds' : List PyData) (k : Nat) e acc, k + ds'.length = ds.length → ds.drop k = ds' → P k e acc → ∃ e' acc', lcD g cYes elt own ds' e acc = .ok acc' e' ∧ P ds.length e' acc' := by
    intro ds'
    induction ds' with
    | nil => intro k e acc hk hd p; exact ⟨e, acc, rfl, by simp at hk; rw [← hk]; exact p⟩
    | cons d ds' ih =>
      intro k e acc hk hd p
      have hlt : k < ds.length := by simp at hk; omega
      obtain ⟨hl, e1, y, e3, h1, h2, h3⟩ := h k hlt e acc p
      have hdk : ds[k] = d := by
        have := List.drop_eq_getElem_cons hlt
        rw [hd] at this
        exact (List.cons.inj this).1.symm
      have hdd : ds.drop (k + 1) = ds' := by
        have := List.drop_eq_getElem_cons hlt
        rw [hd] at this
        exact (List.cons.inj this).2.symm
      rw [hdk] at h1
      obtain ⟨e', acc', h4, h5⟩ := ih (k + 1) _ _ (by simp at hk; omega) hdd h3
      refine ⟨e', acc', ?_, h5⟩
      rw [lcD_cons, h1]
      dsimp only [cYes]
      rw [h2]
      dsimp only
      rw [decide_eq_true (by omega : acc.length < 16777216)]
      exact h4
  exact key ds 0 e [] (by simp) (by simp) h0
theorem rng_map : ∀ (n k : Nat), rngD (k : Int) n = (List.range n).map fun i : Nat => PyData.int ((k + i : Nat) : Int)
  | 0, _ => rfl
  | n + 1, k => by
    rw [List.range_succ_eq_map, List.map_cons, List.map_map]
    show PyData.int (k : Int) :: rngD ((k : Int) + 1) n = _
    have := rng_map n (k + 1)
    rw [show ((k + 1 : Nat) : Int) = (k : Int) + 1 by omega] at this
    rw [this]
    congr 1
    refine List.map_congr_left fun i _ => ?_
    show PyData.int _ = PyData.int _
    congr 1
    show ((k + 1 + i : Nat) : Int) = ((k + (i + 1) : Nat) : Int)
    omega
theorem rng0_map (n : Nat) : rngD 0 n = (List.range n).map fun i : Nat => PyData.int (i : Int) := by
  have := rng_map n 0
  simpa using this
theorem enum_map {α : Type} (enc : α → PyData) : ∀ (l : List α) (n : Nat), enumD n (l.map enc) = (l.zipIdx n).map fun p => PyData.tuple [.int (p.2 : Int), enc p.1]
  | [], _ => rfl
  | a :: l, n => by
    show PyData.tuple [.int (n : Int), enc a] :: enumD (n + 1) (l.map enc) = _
    rw [enum_map enc l (n + 1), List.zipIdx_cons, List.map_cons]
/-- one turn of a comprehension -/
def LcOk (g : DG) (tst : DT) (elt : DE) (own : List Nat) (e : Sm.Env) (d : PyData) (t : Bool) (y : PyData) : Prop := match g d e with
  | some e1 => (match tst e1 with
    | .ok b e2 => b = t ∧ (match b with
      | true => (match elt e2 with
        | .ok m e3 => m = .val y ∧ e3.wipe own = e
        | _ => False)
      | false => e2.wipe own = e)
    | _ => False)
  | none => False
theorem lc_of {α : Type} {g : DG} {tst : DT} {elt : DE} {own : List Nat} {e : Sm.Env} {enc : α → PyData} (t : α → Bool) (f : α → PyData) {l : List α} (h : ∀ a ∈ l, LcOk g tst elt own e (enc a) (t a) (f a)) (hl : l.length ≤ 16777216) :
    lcD g tst elt own (l.map enc) e [] = .ok ((l.filter t).map f) e := by
  have := lcD_map (g := g) (tst := tst) (elt := elt) (own := own) (e := e) enc t f l [] (fun a ha => ?_) (by simpa using hl)
  · simpa using this
  · have h1 := h a ha
    unfold LcOk at h1
    cases q1 : g (enc a) e with
    | none => rw [q1] at h1; exact h1.elim
    | some e1 =>
      rw [q1] at h1
      dsimp only at h1
      cases q2 : tst e1 with
      | bad => rw [q2] at h1; exact h1.elim
      | exc x e2 => rw [q2] at h1; exact h1.elim
      | ok b e2 =>
        rw [q2] at h1
        obtain ⟨rfl, h2⟩ := h1
        refine ⟨e1, e2, rfl, q2, fun hb => ?_, fun hb => ?_⟩
        · rw [hb] at h2
          dsimp only at h2
          cases q3 : elt e2 with
          | bad => rw [q3] at h2; exact h2.elim
          | exc x e2 => rw [q3] at h2; exact h2.elim
          | ok m e3 => rw [q3] at h2; exact ⟨e3, by rw [h2.1], h2.2⟩
        · rw [hb] at h2; exact h2
theorem lc_ofY {α : Type} {g : DG} {elt : DE} {own : List Nat} {e : Sm.Env} {enc : α → PyData} (f : α → PyData) {l : List α} (h : ∀ a ∈ l, LcOk g cYes elt own e (enc a) true (f a)) (hl : l.length ≤ 16777216) :
    lcD g cYes elt own (l.map enc) e [] = .ok (l.map f) e := by
  rw [lc_of (fun _ => true) f h hl, List.filter_eq_self.mpr (fun _ _ => rfl)]
/-- one turn of a loop -/
def ForOk (g : DG) (body : DS) (d : PyData) (e : Sm.Env) (P : Sm.Env → Prop) : Prop := match g d e with
  | some e1 => (match body e1 with
    | .nx e2 => P e2
    | .ct e2 => P e2
    | _ => False)
  | none => False
def RetOk (g : DG) (body : DS) (d : PyData) (e : Sm.Env) (R : M → Sm.Env → Prop) : Prop := match g d e with
  | some e1 => (match body e1 with
    | .ret m e2 => R m e2
    | _ => False)
  | none => False
theorem ForOk.out {g : DG} {body : DS} {d : PyData} {e : Sm.Env} {P : Sm.Env → Prop} (h : ForOk g body d e P) : ∃ e1 e2, g d e = some e1 ∧ (body e1 = .nx e2 ∨ body e1 = .ct e2) ∧ P e2 := by
  unfold ForOk at h
  split at h
  · rename_i e1 h1
    split at h
    · rename_i e2 h2; exact ⟨e1, e2, h1, .inl h2, h⟩
    · rename_i e2 h2; exact ⟨e1, e2, h1, .inr h2, h⟩
    · exact h.elim
  · exact h.elim
theorem RetOk.out {g : DG} {body : DS} {d : PyData} {e : Sm.Env} {R : M → Sm.Env → Prop} (h : RetOk g body d e R) : ∃ e1 m e2, g d e = some e1 ∧ body e1 = .ret m e2 ∧ R m e2 := by
  unfold RetOk at h
  split at h
  · rename_i e1 h1
    split at h
    · rename_i m e2 h2; exact ⟨e1, m, e2, h1, h2, h⟩
    · exact h.elim
  · exact h.elim
theorem for_of {α : Type} {g : DG} {body : DS} (P : Nat → Sm.Env → Prop) {enc : α → PyData} {l : List α} {e : Sm.Env} (h0 : P 0 e) (h : ∀ i (hi : i < l.length) e, P i e → ForOk g body (enc l[i]) e (P (i + 1))) : ∃ e', forD g body (l.map enc) e = .nx e' ∧ P l.length e' := by
  have := forD_run (g := g) (body := body) P (ds := l.map enc) (fun i hi e p => by
    have hi' : i < l.length := by simpa using hi
    have := (h i hi' e p).out
    simpa using this) h0
  simpa using this
theorem for_ret {α : Type} {g : DG} {body : DS} (P : Nat → Sm.Env → Prop) {enc : α → PyData} {l : List α} {e : Sm.Env} {R : M → Sm.Env → Prop} (h0 : P 0 e) {k : Nat} (hk : k < l.length) (h : ∀ i (hi : i < k) e, P i e → ForOk g body (enc l[i]) e (P (i + 1))) (hr : ∀ e, P k e → RetOk g body (enc l[k]) e R) : ∃ m e', forD g body (l.map enc) e = .ret m e' ∧ R m e' :=
  forD_ret (g := g) (body := body) P (ds := l.map enc) (k := k) (by simpa using hk) (fun i hi e p => by
    have := (h i hi e p).out
    simpa using this) h0 (R := fun r => ∃ m e', r = .ret m e' ∧ R m e') (fun e p => by
    obtain ⟨e1, m, e2, h1, h2, h3⟩ := (hr e p).out
    exact ⟨e1, m, e2, by simpa using h1, h2, m, e2, rfl, h3⟩)
theorem for_at {α : Type} {g : DG} {body : DS} {enc : α → PyData} {l : List α} {e : Sm.Env} {F : RS} (hF : forD g body (l.map enc) e = F) (P : Nat → Sm.Env → Prop) (h0 : P 0 e) (h : ∀ i (hi : i < l.length) e, P i e → ForOk g body (enc l[i]) e (P (i + 1))) : ∃ e', F = .nx e' ∧ P l.length e' := by
  subst hF
  exact for_of P h0 h
theorem for_rt {α : Type} {g : DG} {body : DS} {enc : α → PyData} {l : List α} {e : Sm.Env} {F : RS} (hF : forD g body (l.map enc) e = F) (P : Nat → Sm.Env → Prop) (R : M → Sm.Env → Prop) (h0 : P 0 e) {k : Nat} (hk : k < l.length) (h : ∀ i (hi : i < k) e, P i e → ForOk g body (enc l[i]) e (P (i + 1))) (hr : ∀ e, P k e → RetOk g body (enc l[k]) e R) : ∃ m e', F = .ret m e' ∧ R m e' := by
  subst hF
  exact for_ret P h0 hk h hr
/-- one turn of a comprehension that changes what it finds -/
def LcR (g : DG) (elt : DE) (own : List Nat) (d : PyData) (e : Sm.Env) (Q : PyData → Sm.Env → Prop) : Prop := match g d e with
  | some e1 => (match elt e1 with
    | .ok (.fl (.val y)) e3 => Q y (e3.wipe own)
    | _ => False)
  | none => False
theorem lc_run {α : Type} {g : DG} {elt : DE} {own : List Nat} {e : Sm.Env} {enc : α → PyData} {l : List α} {F : RE (List PyData)} (hF : lcD g cYes elt own (l.map enc) e [] = F) (P : Nat → Sm.Env → List PyData → Prop) (hz : l.length ≤ 16777216) (h0 : P 0 e [])
    (h : ∀ i (hi : i < l.length) e acc, P i e acc → acc.length = i ∧ LcR g elt own (enc l[i]) e fun y e' => P (i + 1) e' (acc ++ [y])) : ∃ e' acc, F = .ok acc e' ∧ P l.length e' acc := by
  subst hF
  have := lcD_run (g := g) (elt := elt) (own := own) P (ds := l.map enc) (by simpa using hz) (fun i hi e acc p => by
    have hi' : i < l.length := by simpa using hi
    obtain ⟨h1, h2⟩ := h i hi' e acc p
    refine ⟨h1, ?_⟩
    unfold LcR at h2
    split at h2
    · rename_i e1 q1
      split at h2
      · rename_i y e3 q2
        exact ⟨e1, y, e3, by simpa using q1, q2, h2⟩
      · exact h2.elim
    · exact h2.elim) h0
  simpa using this
theorem intsOf_mapA {α : Type} (f : α → Int) : ∀ l : List α, intsOf (l.map fun b => PyData.int (f b)) = some (l.map f)
  | [] => rfl
  | b :: l => by simp [intsOf, intsOf_mapA f l]
theorem sum_map {α : Type} (f : α → Int) (l : List α) : gSumU [.lst (l.map fun b => PyData.int (f b))] = some (.val (.int (l.map f).sum)) := by
  have := intsOf_mapA f l
  simp only [gSumU, Sm.orM, gSum, gInts, lstOf, Option.bind_some, this]
  rfl
theorem sum_mapT {α : Type} (f : α → Int) (l : List α) : gSumU [.val (.tuple (l.map fun b => PyData.int (f b)))] = some (.val (.int (l.map f).sum)) := by
  have := intsOf_mapA f l
  simp only [gSumU, Sm.orM, gSum, gInts, gIntsT, tupOf, lstOf, Option.bind_some, Option.bind_none, this]
  rfl
theorem max_map {α : Type} (f : α → Int) {l : List α} (h : l ≠ []) : gMaxU [.lst (l.map fun b => PyData.int (f b))] = some (.val (.int (maxI (l.map f)))) := by
  cases l with
  | nil => exact absurd rfl h
  | cons a l =>
    have := intsOf_mapA f (a :: l)
    simp only [gMaxU, Sm.orM, gMax, gInts, lstOf, Option.bind_some, this]
    rfl
theorem max_mapL {α : Type} (f : α → Int) {l : List α} (h : l ≠ []) : gMaxU [.val (.list (l.map fun b => PyData.int (f b)))] = some (.val (.int (maxI (l.map f)))) := by
  cases l with
  | nil => exact absurd rfl h
  | cons a l =>
    have := intsOf_mapA f (a :: l)
    simp only [gMaxU, Sm.orM, gMax, gInts, lstOf, Option.bind_some, this]
    rfl
theorem max_mapT {α : Type} (f : α → Int) {l : List α} (h : l ≠ []) : gMaxU [.val (.tuple (l.map fun b => PyData.int (f b)))] = some (.val (.int (maxI (l.map f)))) := by
  cases l with
  | nil => exact absurd rfl h
  | cons a l =>
    have := intsOf_mapA f (a :: l)
    simp only [gMaxU, Sm.orM, gMax, gInts, gIntsT, tupOf, lstOf, Option.bind_some, Option.bind_none, this]
    rfl
end Mp






namespace Wk
open PySem PySem.Spec PyProof.Rows L2 Sm
/-! ### is_number -/
noncomputable def b_is_number (C : Str → Addr) : DS :=
  (cRet (cAndV (cOp (gIsi "int") [.v 0, .e (cC (.raw (.ty "int")))]) (cAndV (cNotV (cOp (gIsi "bool") [.v 0, .e (cC (.raw (.ty "bool")))])) (cChain (fun i j => decide (i ≤ j)) (fun i j => decide (i ≤ j)) (cV 1) (cV 0) (cV 2)))))
noncomputable def d_is_number (C : Str → Addr) : DF := def0 3 0 (b_is_number C)

/-! ### is_price -/
noncomputable def b_is_price (C : Str → Addr) : DS :=
  (cRet (cOrV (cOp gIsN [.v 0, .e (cC (.val .none))]) (cCall (d_is_number C) [.v 0, .e (cC (.val (.int 1))), .e (cC (.val (.int 99)))])))
noncomputable def d_is_price (C : Str → Addr) : DF := def0 1 0 (b_is_price C)

/-! ### Taker.__init__ -/
noncomputable def b_Taker_init (C : Str → Addr) : DS :=
  (cSeq (cSetF (C "Taker") 0 "many" (cV 1))
    (cSetF (C "Taker") 0 "met" (cC (.dct []))))
noncomputable def d_Taker_init (C : Str → Addr) : DF := def0 2 0 (b_Taker_init C)

/-! ### Taker.takes -/
noncomputable def b_Taker_takes (C : Str → Addr) : DS :=
  (cSeq (cIfS (cNot (cB (cOp (gIsi "tuple") [.v 1, .e (cC (.raw (.ty "tuple")))]))) (cRet (cC (.val (.bool false)))) cNx)
    (cSeq (cFor (iSeq itemsM (cV 1)) (gN 2) (cSeq (cIfS (cOr (cNot (cB (cCall (d_is_number C) [.v 2, .e (cC (.val (.int 0))), .e (cOp (gI fun i j => i - j) [.e (cFld (C "Taker") 0 "many"), .e (cC (.val (.int 1)))])]))) (cB (cDInF false (C "Taker") 0 "met" (cV 2)))) (cRet (cC (.val (.bool false)))) cNx)
    (cDPutF (C "Taker") 0 "met" (cC (.val (.bool true))) 2)))
    (cRet (cC (.val (.bool true))))))
noncomputable def d_Taker_takes (C : Str → Addr) : DF := def0 2 1 (b_Taker_takes C)

/-! ### Taker.lacking -/
noncomputable def b_Taker_lacking (C : Str → Addr) : DS :=
  (cSeq (cSet 1 (cFz (cLc (iRng1D [.e (cFld (C "Taker") 0 "many")]) (gN 2) (cB (cDInF true (C "Taker") 0 "met" (cV 2))) (cV 2) [2])))
    (cRet (cIf (cB (cOp gNe [.v 1, .e (cOp gLstM [])])) (cOp gIx [.v 1, .e (cC (.val (.int 0)))]) (cC (.val .none)))))
noncomputable def d_Taker_lacking (C : Str → Addr) : DF := def0 1 2 (b_Taker_lacking C)

/-! ### first_bad_price -/
noncomputable def b_first_bad_price (C : Str → Addr) : DS :=
  (cSeq (cIfS (cOr (cNot (cB (cOp (gIsi "tuple") [.v 0, .e (cC (.raw (.ty "tuple")))]))) (cB (cOp gEq [.v 0, .e (cOp gTupM [])]))) (cRet (cC (.val (.int 0)))) cNx)
    (cSeq (cFor (iSeq (fun m => (seqOf m).map (enumD 0)) (cV 0)) (gT 2 (gsC (gN 1) (gsC (gN 2) gsN))) (cIfS (cOr (cB (cOp gEq [.v 1, .e (cC (.val (.int 12)))])) (cNot (cB (cCall (d_is_price C) [.v 2])))) (cRet (cV 1)) cNx))
    (cRet (cC (.val .none)))))
noncomputable def d_first_bad_price (C : Str → Addr) : DF := def0 1 2 (b_first_bad_price C)

/-! ### first_bad_lot -/
noncomputable def b_first_bad_lot (C : Str → Addr) : DS :=
  (cSeq (cIfS (cOr (cNot (cB (cOp (gIsi "tuple") [.v 1, .e (cC (.raw (.ty "tuple")))]))) (cB (cOp gEq [.v 1, .e (cOp gTupM [])]))) (cRet (cC (.val (.int 0)))) cNx)
    (cSeq (cFor (iSeq (fun m => (seqOf m).map (enumD 0)) (cV 1)) (gT 2 (gsC (gN 3) (gsC (gN 4) gsN))) (cIfS (cOr (cB (cOp gEq [.v 3, .v 2])) (cNot (cB (cMeth (C "Taker") "takes" (d_Taker_takes C) 0 [.v 4])))) (cRet (cV 3)) cNx))
    (cRet (cC (.val .none)))))
noncomputable def d_first_bad_lot (C : Str → Addr) : DF := def0 3 2 (b_first_bad_lot C)

/-! ### need_shelf -/
noncomputable def b_need_shelf (C : Str → Addr) : DS :=
  (cSeq (cIfS (cOr (cNot (cB (cOp (gIsi "tuple") [.v 0, .e (cC (.raw (.ty "tuple")))]))) (cB (cOp gNe [.e (cOp gLen [.v 0]), .e (cC (.val (.int 2)))]))) cBad cNx)
    (cSeq (cSet 1 (cCall (d_first_bad_price C) [.e (cOp gIx [.v 0, .e (cC (.val (.int 0)))])]))
    (cSeq (cIfS (cB (cOp gNotN [.v 1, .e (cC (.val .none))])) cBad cNx)
    (cSeq (cSet 2 (cMake (C "Taker") (d_Taker_init C) [.e (cOp gLen [.e (cOp gIx [.v 0, .e (cC (.val (.int 0)))])])]))
    (cSeq (cSet 1 (cCall (d_first_bad_lot C) [.v 2, .e (cOp gIx [.v 0, .e (cC (.val (.int 1)))]), .e (cC (.val (.int 5)))]))
    (cSeq (cIfS (cB (cOp gNotN [.v 1, .e (cC (.val .none))])) cBad cNx)
    (cIfS (cB (cOp gNotN [.e (cMeth (C "Taker") "lacking" (d_Taker_lacking C) 2 []), .e (cC (.val .none))])) cBad cNx)))))))
noncomputable def d_need_shelf (C : Str → Addr) : DF := def0 1 2 (b_need_shelf C)

/-! ### need_goal -/
noncomputable def b_need_goal (C : Str → Addr) : DS :=
  (cSeq (cSet 2 (cOp gLen [.e (cOp gIx [.v 0, .e (cC (.val (.int 1)))])]))
    (cSeq (cSet 3 (cMake (C "Taker") (d_Taker_init C) [.e (cOp gLen [.e (cOp gIx [.v 0, .e (cC (.val (.int 0)))])])]))
    (cSeq (cSet 4 (cCall (d_first_bad_lot C) [.v 3, .v 1, .v 2]))
    (cSeq (cIfS (cB (cOp gNotN [.v 4, .e (cC (.val .none))])) cBad cNx)
    (cSeq (cIfS (cB (cOp (gIB fun i j => decide (i < j)) [.e (cOp gLen [.v 1]), .v 2])) cBad cNx)
    (cIfS (cB (cOp gNotN [.e (cMeth (C "Taker") "lacking" (d_Taker_lacking C) 3 []), .e (cC (.val .none))])) cBad cNx))))))
noncomputable def d_need_goal (C : Str → Addr) : DF := def0 2 3 (b_need_goal C)

/-! ### lot_of -/
noncomputable def b_lot_of (C : Str → Addr) : DS :=
  (cRet (cOp gIx [.e (cLc (iSeq (fun m => (seqOf m).map (enumD 0)) (cV 0)) (gT 2 (gsC (gN 2) (gsC (gN 3) gsN))) (cB (cOp (gInU false) [.v 1, .v 3])) (cV 2) [2, 3]), .e (cC (.val (.int 0)))]))
noncomputable def d_lot_of (C : Str → Addr) : DF := def0 2 2 (b_lot_of C)

/-! ### fixed_in -/
noncomputable def b_fixed_in (C : Str → Addr) : DS :=
  (cRet (cFz (cLc (iSeq itemsM (cV 1)) (gN 2) (cB (cOp gIsN [.e (cOp gIx [.e (cOp gIx [.v 0, .e (cC (.val (.int 0)))]), .v 2]), .e (cC (.val .none))])) (cV 2) [2])))
noncomputable def d_fixed_in (C : Str → Addr) : DF := def0 2 1 (b_fixed_in C)

/-! ### price_in -/
noncomputable def b_price_in (C : Str → Addr) : DS :=
  (cRet (cOp gSumU [.e (cLc (iSeq itemsM (cV 1)) (gN 2) cYes (cOrT (cOp gIx [.e (cOp gIx [.v 0, .e (cC (.val (.int 0)))]), .v 2]) (cC (.val (.int 0)))) [2])]))
noncomputable def d_price_in (C : Str → Addr) : DF := def0 2 1 (b_price_in C)

/-! ### placed -/
noncomputable def b_placed (C : Str → Addr) : DS :=
  (cSeq (cAsgG (gT 3 (gsC (gN 2) (gsC (gN 3) (gsC (gN 4) gsN)))) (cV 1))
    (cSeq (cSet 5 (cLc (iSeq itemsM (cV 0)) (gN 6) cYes (cOp gTuple [.e (cLc (iSeq itemsM (cV 6)) (gN 7) (cB (cOp gNe [.v 7, .v 2])) (cV 7) [7])]) [6]))
    (cSeq (cSetIx 5 (cFz (cIf (cB (cOp gEq [.v 4, .e (cC (.val (.str "first")))])) (cFz (cOp gAdd [.e (cOp gTupM [.v 2]), .e (cOp gIx [.v 5, .v 3])])) (cFz (cOp gAdd [.e (cOp gIx [.v 5, .v 3]), .e (cOp gTupM [.v 2])])))) (cV 3))
    (cRet (cOp gTuple [.v 5])))))
noncomputable def d_placed (C : Str → Addr) : DF := def0 2 6 (b_placed C)

/-! ### standing -/
noncomputable def b_standing (C : Str → Addr) : DS :=
  (cSeq (cSet 2 (cDc (iSeq (fun m => (seqOf m).map (enumD 0)) (cV 0)) (gT 2 (gsC (gN 7) (gsC (gN 8) gsN))) cYes (cV 8) (cV 7) [7, 8]))
    (cSeq (cSet 3 (cOp gLstM []))
    (cSeq (cFor (iRng1D [.e (cOp gLen [.v 1])]) (gN 4) (cSeq (cPar 5 6 (cV 4) (cOp (gU fun i => -i) [.e (cC (.val (.int 1)))]))
    (whileD (cAnd (cB (cOp (gIB fun i j => decide (i < j)) [.v 5, .e (cOp gLen [.v 1])])) (cB (cOp (gIB fun i j => decide (j < i)) [.e (cDGet2 2 (cOp gIx [.v 1, .v 5]) (cOp (gU fun i => -i) [.e (cC (.val (.int 1)))])), .v 6]))) (cSeq (cSet 6 (cDGet 2 (cOp gIx [.v 1, .v 5])))
    (cSeq (cAug 5 (fun i j => i + j) (cC (.val (.int 1))))
    (cExpr (cMut gApp 3 [.e (cOp gTupM [.v 4, .v 5])])))) fuelW.1)))
    (cRet (cFz (cMov 3))))))
noncomputable def d_standing (C : Str → Addr) : DF := def0 2 7 (b_standing C)

/-! ### holding -/
noncomputable def b_holding (C : Str → Addr) : DS :=
  (cSeq (cSet 3 (cOp gIx [.v 2, .v 1]))
    (cSeq (cSet 4 (cCall (d_fixed_in C) [.v 0, .v 3]))
    (cSeq (cSet 5 (cOp gLstM []))
    (cSeq (cFor (iSeq itemsM (cCall (d_standing C) [.e (cOp gIx [.e (cOp gIx [.v 0, .e (cC (.val (.int 1)))]), .v 1]), .v 3])) (gT 2 (gsC (gN 6) (gsC (gN 7) gsN))) (cIfS (cB (cOp gAll [.e (cLc (iSeq itemsM (cV 4)) (gN 8) cYes (cOp (gInU false) [.v 8, .e (cSl gSl (.v 3) (.e (cV 6)) (.e (cV 7)))]) [8])])) (cExpr (cMut gApp 5 [.e (cOp gTupM [.v 6, .v 7])])) cNx))
    (cRet (cFz (cMov 5)))))))
noncomputable def d_holding (C : Str → Addr) : DF := def0 3 6 (b_holding C)

/-! ### greatest -/
noncomputable def b_greatest (C : Str → Addr) : DS :=
  (cSeq (cSet 3 (cOp gIx [.v 2, .v 1]))
    (cSeq (cSet 4 (cFz (cLc (iSeq itemsM (cCall (d_holding C) [.v 0, .v 1, .v 2])) (gT 2 (gsC (gN 6) (gsC (gN 7) gsN))) cYes (cOp gTupM [.e (cCall (d_price_in C) [.v 0, .e (cFz (cSl gSl (.v 3) (.e (cV 6)) (.e (cV 7))))]), .e (cOp gTupM [.v 6, .v 7])]) [6, 7])))
    (cSeq (cSet 5 (cIf (cB (cOp gNe [.v 4, .e (cOp gLstM [])])) (cOp gMaxU [.e (cLc (iSeq itemsM (cV 4)) (gT 2 (gsC (gN 8) (gsC (gN 9) gsN))) cYes (cV 8) [8, 9])]) (cC (.val (.int 0)))))
    (cRet (cFz (cLc (iSeq itemsM (cV 4)) (gT 2 (gsC (gN 8) (gsC (gN 9) gsN))) (cB (cOp gEq [.v 8, .v 5])) (cV 9) [8, 9]))))))
noncomputable def d_greatest (C : Str → Addr) : DF := def0 3 7 (b_greatest C)

/-! ### longest -/
noncomputable def b_longest (C : Str → Addr) : DS :=
  (cSeq (cSet 3 (cOp gIx [.v 2, .v 1]))
    (cSeq (cSet 4 (cFz (cLc (iSeq itemsM (cCall (d_holding C) [.v 0, .v 1, .v 2])) (gT 2 (gsC (gN 5) (gsC (gN 6) gsN))) cYes (cOp (gI fun i j => i - j) [.v 6, .v 5]) [5, 6])))
    (cRet (cIf (cB (cOp gNe [.v 4, .e (cOp gLstM [])])) (cOp (gI fun i j => i - j) [.e (cOp gMaxU [.v 4]), .e (cOp gLen [.e (cCall (d_fixed_in C) [.v 0, .v 3])])]) (cC (.val (.int 0)))))))
noncomputable def d_longest (C : Str → Addr) : DF := def0 3 4 (b_longest C)

/-! ### stays -/
noncomputable def b_stays (C : Str → Addr) : DS :=
  (cSeq (cExpr (cCall (d_need_shelf C) [.v 0]))
    (cSeq (cExpr (cCall (d_need_goal C) [.v 0, .v 1]))
    (cRet (cFz (cLc (iRng1D [.e (cOp gLen [.v 1])]) (gN 2) cYes (cCall (d_greatest C) [.v 0, .v 2, .v 1]) [2])))))
noncomputable def d_stays (C : Str → Addr) : DF := def0 2 1 (b_stays C)

/-! ### bar_of -/
noncomputable def b_bar_of (C : Str → Addr) : DS :=
  (cSeq (cFor (iSeq (fun m => (seqOf m).map (enumD 0)) (cOp gIx [.v 0, .e (cC (.val (.int 0)))])) (gT 2 (gsC (gN 2) (gsC (gN 3) gsN))) (cIfS (cAnd (cB (cOp gIsN [.v 3, .e (cC (.val .none))])) (cB (cOp gNe [.e (cCall (d_lot_of C) [.e (cOp gIx [.v 0, .e (cC (.val (.int 1)))]), .v 2]), .e (cCall (d_lot_of C) [.v 1, .v 2])]))) (cRet (cOp gTupM [.e (cC (.val (.str "lot"))), .v 2])) cNx))
    (cSeq (cFor (iSeq (fun m => (seqOf m).map (enumD 0)) (cV 1)) (gT 2 (gsC (gN 4) (gsC (gN 5) gsN))) (cIfS (cAnd (cB (cOp gNe [.e (cCall (d_fixed_in C) [.v 0, .v 5]), .e (cOp gLstM [])])) (cB (cOp gEq [.e (cCall (d_holding C) [.v 0, .v 4, .v 1]), .e (cOp gLstM [])]))) (cRet (cOp gTupM [.e (cC (.val (.str "turn"))), .v 4])) cNx))
    (cRet (cC (.val .none)))))
noncomputable def d_bar_of (C : Str → Addr) : DF := def0 2 4 (b_bar_of C)

/-! ### barred -/
noncomputable def b_barred (C : Str → Addr) : DS :=
  (cSeq (cExpr (cCall (d_need_shelf C) [.v 0]))
    (cSeq (cExpr (cCall (d_need_goal C) [.v 0, .v 1]))
    (cRet (cCall (d_bar_of C) [.v 0, .v 1]))))
noncomputable def d_barred (C : Str → Addr) : DF := def0 2 0 (b_barred C)

/-! ### Task.__init__ -/
noncomputable def b_Task_init (C : Str → Addr) : DS :=
  (cSeq (cSetF (C "Task") 0 "wood" (cV 1))
    (cSeq (cSetF (C "Task") 0 "wanted" (cV 2))
    (cSetF (C "Task") 0 "runs" (cFz (cLc (iRng1D [.e (cOp gLen [.v 2])]) (gN 3) cYes (cCall (d_greatest C) [.v 1, .v 3, .v 2]) [3])))))
noncomputable def d_Task_init (C : Str → Addr) : DF := def0 3 1 (b_Task_init C)

/-! ### Task.may -/
noncomputable def b_Task_may (C : Str → Addr) : DS :=
  (cRet (cOp gIsN [.e (cCall (d_bar_of C) [.e (cFld (C "Task") 0 "wood"), .e (cFld (C "Task") 0 "wanted")]), .e (cC (.val .none))]))
noncomputable def d_Task_may (C : Str → Addr) : DF := def0 1 0 (b_Task_may C)

/-! ### Task.chosen -/
noncomputable def b_Task_chosen (C : Str → Addr) : DS :=
  (cRet (cIf (cB (cOp gNe [.e (cOp gIx [.e (cFld (C "Task") 0 "runs"), .v 1]), .e (cOp gLstM [])])) (cOp gIx [.e (cOp gIx [.e (cFld (C "Task") 0 "runs"), .v 1]), .e (cC (.val (.int 0)))]) (cOp gTupM [.e (cC (.val (.int 0))), .e (cC (.val (.int 0)))])))
noncomputable def d_Task_chosen (C : Str → Addr) : DF := def0 2 0 (b_Task_chosen C)

/-! ### Task.cost -/
noncomputable def b_Task_cost (C : Str → Addr) : DS :=
  (cSeq (cSet 1 (cCall (d_price_in C) [.e (cFld (C "Task") 0 "wood"), .e (cFz (cRng1 false (cOp gLen [.e (cOp gIx [.e (cFld (C "Task") 0 "wood"), .e (cC (.val (.int 0)))])])))]))
    (cSeq (cFor (iSeq (fun m => (seqOf m).map (enumD 0)) (cFld (C "Task") 0 "wanted")) (gT 2 (gsC (gN 2) (gsC (gN 3) gsN))) (cSeq (cAsgG (gT 2 (gsC (gN 4) (gsC (gN 5) gsN))) (cMeth (C "Task") "chosen" (d_Task_chosen C) 0 [.v 2]))
    (cAug 1 (fun i j => i - j) (cCall (d_price_in C) [.e (cFld (C "Task") 0 "wood"), .e (cFz (cSl gSl (.v 3) (.e (cV 4)) (.e (cV 5))))]))))
    (cRet (cV 1))))
noncomputable def d_Task_cost (C : Str → Addr) : DF := def0 1 5 (b_Task_cost C)

/-! ### Task.way -/
noncomputable def b_Task_way (C : Str → Addr) : DS :=
  (cSeq (cSet 1 (cOp gLstM []))
    (cSeq (cFor (iSeq (fun m => (seqOf m).map (enumD 0)) (cFld (C "Task") 0 "wanted")) (gT 2 (gsC (gN 2) (gsC (gN 3) gsN))) (cSeq (cAsgG (gT 2 (gsC (gN 4) (gsC (gN 5) gsN))) (cMeth (C "Task") "chosen" (d_Task_chosen C) 0 [.v 2]))
    (cSeq (cExpr (cMut gExt 1 [.e (cLc (iSeq itemsM (cRev (cSl gSl (.v 3) .no (.e (cV 4))) (cOp (gU fun i => -i) [.e (cC (.val (.int 1)))]))) (gN 6) cYes (cOp gTupM [.v 6, .v 2, .e (cC (.val (.str "first")))]) [6])]))
    (cExpr (cMut gExt 1 [.e (cLc (iSeq itemsM (cSl gSl (.v 3) (.e (cV 5)) .no)) (gN 6) cYes (cOp gTupM [.v 6, .v 2, .e (cC (.val (.str "last")))]) [6])])))))
    (cRet (cFz (cMov 1)))))
noncomputable def d_Task_way (C : Str → Addr) : DF := def0 1 6 (b_Task_way C)

/-! ### Task.sides -/
noncomputable def b_Task_sides (C : Str → Addr) : DS :=
  (cSeq (cSet 2 (cOp gLen [.e (cOp gIx [.e (cFld (C "Task") 0 "wanted"), .v 1])]))
    (cSeq (cIfS (cB (cOp gEq [.e (cOp gIx [.e (cFld (C "Task") 0 "runs"), .v 1]), .e (cOp gLstM [])])) (cRet (cFz (cLc (iRng1D [.e (cOp gAdd [.v 2, .e (cC (.val (.int 1)))])]) (gN 3) cYes (cOp gTupM [.v 3, .e (cOp (gI fun i j => i - j) [.v 2, .v 3])]) [3]))) cNx)
    (cRet (cFz (cLc (iSeq itemsM (cOp gIx [.e (cFld (C "Task") 0 "runs"), .v 1])) (gT 2 (gsC (gN 3) (gsC (gN 4) gsN))) cYes (cOp gTupM [.v 3, .e (cOp (gI fun i j => i - j) [.v 2, .v 4])]) [3, 4])))))
noncomputable def d_Task_sides (C : Str → Addr) : DF := def0 2 3 (b_Task_sides C)

/-! ### blended -/
noncomputable def b_blended (C : Str → Addr) : DS :=
  (cSeq (cSet 2 (cC (.val (.int 1))))
    (cSeq (cFor (iRng1D [.v 1]) (gN 3) (cSet 2 (cOp (gII okDiv fun i j => .int (i / j)) [.e (cOp gMulV [.v 2, .e (cOp gAdd [.e (cOp gAdd [.v 0, .v 3]), .e (cC (.val (.int 1)))])]), .e (cOp gAdd [.v 3, .e (cC (.val (.int 1)))])])))
    (cRet (cV 2))))
noncomputable def d_blended (C : Str → Addr) : DF := def0 2 2 (b_blended C)

/-! ### Task.ways -/
noncomputable def b_Task_ways (C : Str → Addr) : DS :=
  (cSeq (cSet 1 (cC (.dct [(.inl 0, .int 1)])))
    (cSeq (cFor (iRng1D [.e (cOp gLen [.e (cFld (C "Task") 0 "wanted")])]) (gN 2) (cSeq (cSet 3 (cC (.dct [])))
    (cSeq (cItems 1 (gT 2 (gsC (gN 4) (gsC (gN 5) gsN))) (cFor (iSeq itemsM (cMeth (C "Task") "sides" (d_Task_sides C) 0 [.v 2])) (gT 2 (gsC (gN 6) (gsC (gN 7) gsN))) (cSeq (cSet 8 (cFz (cOp gAdd [.v 6, .v 7])))
    (cSeq (cSet 9 (cFz (cOp gMulV [.e (cCall (d_blended C) [.v 4, .v 8]), .e (cCall (d_blended C) [.v 6, .v 7])])))
    (cDPut 3 (cFz (cOp gAdd [.e (cDGet2 3 (cOp gAdd [.v 4, .v 8]) (cC (.val (.int 0)))), .e (cOp gMulV [.v 5, .v 9])])) (cOp gAdd [.v 4, .v 8]))))))
    (cSet 1 (cMov 3)))))
    (cRet (cSumV (cMov 1)))))
noncomputable def d_Task_ways (C : Str → Addr) : DF := def0 1 9 (b_Task_ways C)

/-! ### task_of -/
noncomputable def b_task_of (C : Str → Addr) : DS :=
  (cSeq (cExpr (cCall (d_need_shelf C) [.v 0]))
    (cSeq (cExpr (cCall (d_need_goal C) [.v 0, .v 1]))
    (cRet (cMake (C "Task") (d_Task_init C) [.v 0, .v 1]))))
noncomputable def d_task_of (C : Str → Addr) : DF := def0 2 0 (b_task_of C)

/-! ### least -/
noncomputable def b_least (C : Str → Addr) : DS :=
  (cSeq (cSet 2 (cCall (d_task_of C) [.v 0, .v 1]))
    (cRet (cIf (cB (cMeth (C "Task") "may" (d_Task_may C) 2 [])) (cOp gTupM [.e (cMeth (C "Task") "cost" (d_Task_cost C) 2 []), .e (cMeth (C "Task") "way" (d_Task_way C) 2 [])]) (cC (.val .none)))))
noncomputable def d_least (C : Str → Addr) : DF := def0 2 1 (b_least C)

/-! ### fewest -/
noncomputable def b_fewest (C : Str → Addr) : DS :=
  (cSeq (cSet 2 (cCall (d_task_of C) [.v 0, .v 1]))
    (cSeq (cIfS (cNot (cB (cMeth (C "Task") "may" (d_Task_may C) 2 []))) (cRet (cC (.val .none))) cNx)
    (cSeq (cSet 3 (cOp gLen [.e (cLc (iSeq itemsM (cOp gIx [.v 0, .e (cC (.val (.int 0)))])) (gN 4) (cB (cOp gNotN [.v 4, .e (cC (.val .none))])) (cV 4) [4])]))
    (cRet (cOp (gI fun i j => i - j) [.v 3, .e (cOp gSumU [.e (cLc (iRng1D [.e (cOp gLen [.v 1])]) (gN 5) cYes (cCall (d_longest C) [.v 0, .v 5, .v 1]) [5])])])))))
noncomputable def d_fewest (C : Str → Addr) : DF := def0 2 4 (b_fewest C)

/-! ### ways -/
noncomputable def b_ways (C : Str → Addr) : DS :=
  (cSeq (cSet 2 (cCall (d_task_of C) [.v 0, .v 1]))
    (cRet (cIf (cB (cMeth (C "Task") "may" (d_Task_may C) 2 [])) (cMeth (C "Task") "ways" (d_Task_ways C) 2 []) (cC (.val (.int 0))))))
noncomputable def d_ways (C : Str → Addr) : DF := def0 2 1 (b_ways C)

/-! ### spare -/
noncomputable def b_spare (C : Str → Addr) : DS :=
  (cSeq (cSet 2 (cCall (d_task_of C) [.v 0, .v 1]))
    (cSeq (cIfS (cNot (cB (cMeth (C "Task") "may" (d_Task_may C) 2 []))) cBad cNx)
    (cSeq (cPar 3 4 (cOp gLstM []) (cOp gIx [.v 0, .e (cC (.val (.int 0)))]))
    (cSeq (cFor (iSeq (fun m => (seqOf m).map (enumD 0)) (cV 4)) (gT 2 (gsC (gN 5) (gsC (gN 6) gsN))) (cIfS (cB (cOp gNotN [.v 6, .e (cC (.val .none))])) (cSeq (cSet 7 (cMake (C "Task") (d_Task_init C) [.e (cOp gTupM [.e (cFz (cOp gAdd [.e (cOp gAdd [.e (cSl gSl (.v 4) .no (.e (cV 5))), .e (cOp gTupM [.e (cC (.val .none))])]), .e (cSl gSl (.v 4) (.e (cOp gAdd [.v 5, .e (cC (.val (.int 1)))])) .no)])), .e (cOp gIx [.v 0, .e (cC (.val (.int 1)))])]), .v 1]))
    (cIfS (cAnd (cB (cMeth (C "Task") "may" (d_Task_may C) 7 [])) (cB (cOp gEq [.e (cMeth (C "Task") "cost" (d_Task_cost C) 7 []), .e (cMeth (C "Task") "cost" (d_Task_cost C) 2 [])]))) (cExpr (cMut gApp 3 [.v 5])) cNx)) cNx))
    (cRet (cFz (cMov 3)))))))
noncomputable def d_spare (C : Str → Addr) : DF := def0 2 6 (b_spare C)

/-! ### need_wish -/
noncomputable def b_need_wish (C : Str → Addr) : DS :=
  (cSeq (cIfS (cNot (cB (cOp (gIsi "tuple") [.v 1, .e (cC (.raw (.ty "tuple")))]))) cBad cNx)
    (cSeq (cFor (iSeq (fun m => (seqOf m).map (enumD 0)) (cV 1)) (gT 2 (gsC (gN 2) (gsC (gN 3) gsN))) (cIfS (cOr (cB (cOp gEq [.v 2, .e (cOp gLen [.e (cOp gIx [.v 0, .e (cC (.val (.int 0)))])])])) (cAnd (cB (cOp gNotN [.v 3, .e (cC (.val .none))])) (cNot (cB (cCall (d_is_number C) [.v 3, .e (cC (.val (.int 0))), .e (cOp (gI fun i j => i - j) [.e (cOp gLen [.e (cOp gIx [.v 0, .e (cC (.val (.int 1)))])]), .e (cC (.val (.int 1)))])]))))) cBad cNx))
    (cIfS (cB (cOp (gIB fun i j => decide (i < j)) [.e (cOp gLen [.v 1]), .e (cOp gLen [.e (cOp gIx [.v 0, .e (cC (.val (.int 0)))])])])) cBad cNx)))
noncomputable def d_need_wish (C : Str → Addr) : DF := def0 2 2 (b_need_wish C)

/-! ### cheapest -/
noncomputable def b_cheapest (C : Str → Addr) : DS :=
  (cSeq (cExpr (cCall (d_need_shelf C) [.v 0]))
    (cSeq (cExpr (cCall (d_need_wish C) [.v 0, .v 1]))
    (cSeq (cPar 2 3 (cOp gIx [.v 0, .e (cC (.val (.int 1)))]) (cC (.val (.int 0))))
    (cSeq (cFor (iSeq (fun m => (seqOf m).map (enumD 0)) (cV 1)) (gT 2 (gsC (gN 4) (gsC (gN 5) gsN))) (cIfS (cAnd (cB (cOp gNotN [.v 5, .e (cC (.val .none))])) (cB (cOp gNe [.e (cCall (d_lot_of C) [.e (cOp gIx [.v 0, .e (cC (.val (.int 1)))]), .v 4]), .v 5]))) (cSeq (cIfS (cB (cOp gIsN [.e (cOp gIx [.e (cOp gIx [.v 0, .e (cC (.val (.int 0)))]), .v 4]), .e (cC (.val .none))])) (cRet (cC (.val .none))) cNx)
    (cSeq (cAug 3 (fun i j => i + j) (cOp gIx [.e (cOp gIx [.v 0, .e (cC (.val (.int 0)))]), .v 4]))
    (cSet 2 (cCall (d_placed C) [.v 2, .e (cOp gTupM [.v 4, .v 5, .e (cC (.val (.str "last")))])])))) cNx))
    (cRet (cOp gTupM [.v 3, .v 2]))))))
noncomputable def d_cheapest (C : Str → Addr) : DF := def0 2 4 (b_cheapest C)

end Wk






namespace Wk
open PySem PySem.Spec PyProof.Rows L2 Sm
/-! ### fault_of -/
noncomputable def b_fault_of (C : Str → Addr) : DS :=
  (cSeq (cIfS (cOr (cNot (cB (cOp (gIsi "tuple") [.v 1, .e (cC (.raw (.ty "tuple")))]))) (cOr (cB (cOp gNe [.e (cOp gLen [.v 1]), .e (cC (.val (.int 3)))])) (cNot (cB (cCall (d_is_number C) [.e (cOp gIx [.v 1, .e (cC (.val (.int 0)))]), .e (cC (.val (.int 0))), .e (cOp (gI fun i j => i - j) [.e (cOp gLen [.e (cOp gIx [.v 0, .e (cC (.val (.int 0)))])]), .e (cC (.val (.int 1)))])]))))) (cRet (cC (.val (.str "form")))) cNx)
    (cSeq (cIfS (cOr (cNot (cB (cCall (d_is_number C) [.e (cOp gIx [.v 1, .e (cC (.val (.int 1)))]), .e (cC (.val (.int 0))), .e (cOp (gI fun i j => i - j) [.e (cOp gLen [.e (cOp gIx [.v 0, .e (cC (.val (.int 1)))])]), .e (cC (.val (.int 1)))])]))) (cOr (cNot (cB (cOp (gIsi "str") [.e (cOp gIx [.v 1, .e (cC (.val (.int 2)))]), .e (cC (.raw (.ty "str")))]))) (cB (cOp (gInU true) [.e (cOp gIx [.v 1, .e (cC (.val (.int 2)))]), .e (cOp gTupM [.e (cC (.val (.str "first"))), .e (cC (.val (.str "last")))])])))) (cRet (cC (.val (.str "form")))) cNx)
    (cRet (cIf (cB (cOp gIsN [.e (cOp gIx [.e (cOp gIx [.v 0, .e (cC (.val (.int 0)))]), .e (cOp gIx [.v 1, .e (cC (.val (.int 0)))])]), .e (cC (.val .none))])) (cC (.val (.str "fixed"))) (cC (.val .none))))))
noncomputable def d_fault_of (C : Str → Addr) : DF := def0 2 0 (b_fault_of C)

/-! ### need_list -/
noncomputable def b_need_list (C : Str → Addr) : DS :=
  (cIfS (cNot (cB (cOp (gIsi "list") [.v 0, .e (cC (.raw (.ty "list")))]))) cBad cNx)
noncomputable def d_need_list (C : Str → Addr) : DF := def0 1 0 (b_need_list C)

/-! ### behind -/
noncomputable def b_behind (C : Str → Addr) : DS :=
  (cSeq (cPar 2 3 (cOp gIx [.v 0, .e (cC (.val (.int 1)))]) (cC (.val (.int 0))))
    (cSeq (cFor (iSeq (fun m => (seqOf m).map (enumD 0)) (cV 1)) (gT 2 (gsC (gN 4) (gsC (gN 5) gsN))) (cSeq (cSet 6 (cCall (d_fault_of C) [.v 0, .v 5]))
    (cSeq (cIfS (cB (cOp gNotN [.v 6, .e (cC (.val .none))])) cBad cNx)
    (cSeq (cSet 2 (cCall (d_placed C) [.v 2, .v 5]))
    (cAug 3 (fun i j => i + j) (cOp gIx [.e (cOp gIx [.v 0, .e (cC (.val (.int 0)))]), .e (cOp gIx [.v 5, .e (cC (.val (.int 0)))])]))))))
    (cRet (cOp gTupM [.v 2, .v 3]))))
noncomputable def d_behind (C : Str → Addr) : DF := def0 2 5 (b_behind C)

/-! ### done -/
noncomputable def b_done (C : Str → Addr) : DS :=
  (cSeq (cExpr (cCall (d_need_shelf C) [.v 0]))
    (cSeq (cExpr (cCall (d_need_list C) [.v 1]))
    (cRet (cCall (d_behind C) [.v 0, .v 1]))))
noncomputable def d_done (C : Str → Addr) : DF := def0 2 0 (b_done C)

/-! ### judged -/
noncomputable def b_judged (C : Str → Addr) : DS :=
  (cSeq (cExpr (cCall (d_need_shelf C) [.v 0]))
    (cSeq (cExpr (cCall (d_need_goal C) [.v 0, .v 1]))
    (cSeq (cExpr (cCall (d_need_list C) [.v 2]))
    (cSeq (cAsgG (gT 2 (gsC (gN 3) (gsC (gN 4) gsN))) (cCall (d_behind C) [.v 0, .v 2]))
    (cRet (cOp gTupM [.e (cOp gEq [.v 3, .v 1]), .e (cOp (gI fun i j => i - j) [.v 4, .e (cMethE (C "Task") "cost" (d_Task_cost C) (cMake (C "Task") (d_Task_init C) [.v 0, .v 3]) [])])]))))))
noncomputable def d_judged (C : Str → Addr) : DF := def0 3 2 (b_judged C)

end Wk






namespace Wk
open PySem PySem.Spec PyProof.Rows L2 Sm
/-! ### _law_start -/
noncomputable def b_w_start (C : Str → Addr) : DS :=
  (cSeq (cSet 1 (cC (.val (.int 1))))
    (cSeq (cFor (iSeq itemsM (cV 0)) (gN 2) (cSet 1 (cOp (gII okMod fun i j => .int (i % j)) [.e (cOp gAdd [.e (cOp gAdd [.e (cOp gMulV [.v 1, .e (cC (.val (.int 48271)))]), .v 2]), .e (cC (.val (.int 7)))]), .e (cC (.val (.int 2147483647)))])))
    (cRet (cOp gLstM [.v 0, .e (cC (.val (.int 0))), .v 1, .e (cC (.val (.int 0)))]))))
noncomputable def d_w_start (C : Str → Addr) : DF := def0 1 2 (b_w_start C)

/-! ### _law_drawn -/
noncomputable def b_w_drawn (C : Str → Addr) : DS :=
  (cSeq (cIfS (cB (cOp (gIB fun i j => decide (j < i)) [.e (cOp gIx [.v 0, .e (cC (.val (.int 3)))]), .e (cC (.val (.int 0)))])) (cSeq (cSet 2 (cOp (gII okMod fun i j => .int (i % j)) [.e (cOp gIx [.v 0, .e (cC (.val (.int 3)))]), .v 1]))
    (cSeq (cSetIx 0 (cOp (gII okDiv fun i j => .int (i / j)) [.e (cOp gIx [.v 0, .e (cC (.val (.int 3)))]), .v 1]) (cC (.val (.int 3))))
    (cRet (cV 2)))) cNx)
    (cSeq (cSetIx 0 (cFz (cOp gAdd [.e (cOp gIx [.v 0, .e (cC (.val (.int 1)))]), .e (cC (.val (.int 1)))])) (cC (.val (.int 1))))
    (cSeq (cIfS (cB (cOp (gIB fun i j => decide (i ≤ j)) [.e (cOp gIx [.v 0, .e (cC (.val (.int 1)))]), .e (cOp gLen [.e (cOp gIx [.v 0, .e (cC (.val (.int 0)))])])])) (cSeq (cSet 3 (cOp gIx [.e (cOp gIx [.v 0, .e (cC (.val (.int 0)))]), .e (cOp (gI fun i j => i - j) [.e (cOp gIx [.v 0, .e (cC (.val (.int 1)))]), .e (cC (.val (.int 1)))])]))
    (cSeq (cSetIx 0 (cIf (cB (cOp (gIB fun i j => decide (j ≤ i)) [.v 3, .e (cOp (gII okPow fun i j => .int (i ^ j.toNat)) [.e (cC (.val (.int 10))), .e (cC (.val (.int 18)))])])) (cOp (gII okDiv fun i j => .int (i / j)) [.v 3, .v 1]) (cC (.val (.int 0)))) (cC (.val (.int 3))))
    (cRet (cOp (gII okMod fun i j => .int (i % j)) [.v 3, .v 1])))) cNx)
    (cSeq (cSetIx 0 (cOp (gII okMod fun i j => .int (i % j)) [.e (cOp gAdd [.e (cOp gMulV [.e (cOp gIx [.v 0, .e (cC (.val (.int 2)))]), .e (cC (.val (.int 48271)))]), .e (cC (.val (.int 11)))]), .e (cC (.val (.int 2147483647)))]) (cC (.val (.int 2))))
    (cRet (cOp (gII okMod fun i j => .int (i % j)) [.e (cOp (gII okDiv fun i j => .int (i / j)) [.e (cOp gIx [.v 0, .e (cC (.val (.int 2)))]), .e (cC (.val (.int 7)))]), .v 1]))))))
noncomputable def d_w_drawn (C : Str → Addr) : DF := def0 2 2 (b_w_drawn C)

/-! ### _law_turned -/
noncomputable def b_w_turned (C : Str → Addr) : DS :=
  (cSeq (cPar 2 3 (cRng1 false (cV 1)) (cOp gLstM []))
    (cSeq (whileD (cB (cOp gNe [.v 2, .e (cOp gLstM [])])) (cExpr (cMut gApp 3 [.e (cMut gPopAt 2 [.e (cCall (d_w_drawn C) [.v 0, .e (cOp gLen [.v 2])])])])) fuelW.1)
    (cRet (cFz (cMov 3)))))
noncomputable def d_w_turned (C : Str → Addr) : DF := def0 2 2 (b_w_turned C)

/-! ### _law_lots -/
noncomputable def b_w_lots (C : Str → Addr) : DS :=
  (cSeq (cSet 3 (cOp gMulV [.e (cOp gLstM [.e (cOp gTupM [])]), .v 2]))
    (cSeq (cFor (iSeq itemsM (cCall (d_w_turned C) [.v 0, .v 1])) (gN 4) (cSeq (cSet 5 (cCall (d_w_drawn C) [.v 0, .v 2]))
    (cSetIx 3 (cFz (cOp gAdd [.e (cOp gIx [.v 3, .v 5]), .e (cOp gTupM [.v 4])])) (cV 5))))
    (cRet (cOp gTuple [.v 3]))))
noncomputable def d_w_lots (C : Str → Addr) : DF := def0 3 3 (b_w_lots C)

/-! ### _law_shelf -/
noncomputable def b_w_shelf (C : Str → Addr) : DS :=
  (cSeq (cPar 3 4 (cFz (cOp gAdd [.e (cC (.val (.int 1))), .e (cCall (d_w_drawn C) [.v 0, .v 1])])) (cOp gIx [.e (cOp gLstM [.e (cC (.val (.int 2))), .e (cC (.val (.int 9))), .e (cC (.val (.int 99)))]), .e (cCall (d_w_drawn C) [.v 0, .e (cC (.val (.int 3)))])]))
    (cSeq (cSet 5 (cOp gIx [.e (cOp gLstM [.e (cC (.val (.int 4))), .e (cC (.val (.int 12))), .e (cC (.val (.int 60)))]), .e (cCall (d_w_drawn C) [.v 0, .e (cC (.val (.int 3)))])]))
    (cSeq (cSet 6 (cOp gTuple [.e (cLc (iRng1D [.v 3]) (gN 7) cYes (cFz (cIf (cB (cOp gEq [.e (cCall (d_w_drawn C) [.v 0, .v 5]), .e (cC (.val (.int 0)))])) (cC (.val .none)) (cFz (cOp gAdd [.e (cC (.val (.int 1))), .e (cCall (d_w_drawn C) [.v 0, .v 4])])))) [7])]))
    (cRet (cOp gTupM [.v 6, .e (cCall (d_w_lots C) [.v 0, .v 3, .e (cFz (cOp gAdd [.e (cC (.val (.int 1))), .e (cCall (d_w_drawn C) [.v 0, .v 2])]))])])))))
noncomputable def d_w_shelf (C : Str → Addr) : DF := def0 3 5 (b_w_shelf C)

/-! ### _law_placed -/
noncomputable def b_w_placed (C : Str → Addr) : DS :=
  (cSeq (cSet 4 (cLc (iSeq itemsM (cV 0)) (gN 5) cYes (cOp gTuple [.e (cLc (iSeq itemsM (cV 5)) (gN 6) (cB (cOp gNe [.v 6, .v 1])) (cV 6) [6])]) [5]))
    (cSeq (cSetIx 4 (cFz (cIf (cB (cOp gEq [.v 3, .e (cC (.val (.str "first")))])) (cFz (cOp gAdd [.e (cOp gTupM [.v 1]), .e (cOp gIx [.v 4, .v 2])])) (cFz (cOp gAdd [.e (cOp gIx [.v 4, .v 2]), .e (cOp gTupM [.v 1])])))) (cV 2))
    (cRet (cOp gTuple [.v 4]))))
noncomputable def d_w_placed (C : Str → Addr) : DF := def0 4 3 (b_w_placed C)

/-! ### _law_goal -/
noncomputable def b_w_goal (C : Str → Addr) : DS :=
  (cSeq (cAsgG (gT 2 (gsC (gN 2) (gsC (gN 3) gsN))) (cV 1))
    (cSeq (cSet 4 (cCall (d_w_drawn C) [.v 0, .e (cC (.val (.int 6)))]))
    (cSeq (cIfS (cB (cOp gEq [.v 4, .e (cC (.val (.int 0)))])) (cRet (cCall (d_w_lots C) [.v 0, .e (cOp gLen [.v 2]), .e (cOp gLen [.v 3])])) cNx)
    (cSeq (cFor (iRng1D [.e (cCall (d_w_drawn C) [.v 0, .e (cOp gIx [.e (cOp gLstM [.e (cC (.val (.int 4))), .e (cFz (cOp gAdd [.e (cOp gMulV [.e (cC (.val (.int 2))), .e (cOp gLen [.v 2])]), .e (cC (.val (.int 1)))]))]), .e (cCall (d_w_drawn C) [.v 0, .e (cC (.val (.int 2)))])])])]) (gN 5) (cSeq (cPar 6 7 (cCall (d_w_drawn C) [.v 0, .e (cOp gLen [.v 2])]) (cCall (d_w_drawn C) [.v 0, .e (cOp gLen [.v 3])]))
    (cIfS (cOr (cB (cOp gNotN [.e (cOp gIx [.v 2, .v 6]), .e (cC (.val .none))])) (cAnd (cB (cOp gEq [.v 4, .e (cC (.val (.int 1)))])) (cB (cOp gEq [.v 5, .e (cC (.val (.int 2)))])))) (cSet 3 (cCall (d_w_placed C) [.v 3, .v 6, .v 7, .e (cOp gIx [.e (cOp gLstM [.e (cC (.val (.str "first"))), .e (cC (.val (.str "last")))]), .e (cCall (d_w_drawn C) [.v 0, .e (cC (.val (.int 2)))])])])) cNx)))
    (cRet (cV 3))))))
noncomputable def d_w_goal (C : Str → Addr) : DF := def0 2 6 (b_w_goal C)

end Wk






namespace Wk
open PySem PySem.Spec PyProof.Rows L2 Sm
/-! ### _law_judged_so -/
noncomputable def bl_w_judged_so_0 (C : Str → Addr) : DS :=
  (cPar 3 4 (cOp gIx [.v 1, .e (cC (.val (.int 1)))]) (cOp gLstM []))
noncomputable def bl_w_judged_so_1 (C : Str → Addr) : DS :=
  (cFor (iRng1D [.e (cCall (d_w_drawn C) [.v 0, .e (cC (.val (.int 12)))])]) (gN 5) (cSeq (cPar 6 7 (cCall (d_w_drawn C) [.v 0, .e (cOp gLen [.e (cOp gIx [.v 1, .e (cC (.val (.int 0)))])])]) (cCall (d_w_drawn C) [.v 0, .e (cOp gLen [.v 3])]))
    (cSeq (cSet 8 (cOp gIx [.e (cOp gLstM [.e (cC (.val (.str "first"))), .e (cC (.val (.str "last")))]), .e (cCall (d_w_drawn C) [.v 0, .e (cC (.val (.int 2)))])]))
    (cIfS (cB (cOp gNotN [.e (cOp gIx [.e (cOp gIx [.v 1, .e (cC (.val (.int 0)))]), .v 6]), .e (cC (.val .none))])) (cSeq (cExpr (cMut gApp 4 [.e (cOp gTupM [.v 6, .v 7, .v 8])]))
    (cSet 3 (cCall (d_w_placed C) [.v 3, .v 6, .v 7, .v 8]))) cNx))))
noncomputable def bl_w_judged_so_2 (C : Str → Addr) : DS :=
  (cFrz 4 (cAsgG (gT 2 (gsC (gN 9) (gsC (gN 10) gsN))) (cCall (d_done C) [.v 1, .v 4])))
noncomputable def bl_w_judged_so_3 (C : Str → Addr) : DS :=
  (cSet 11 (cCall (d_judged C) [.v 1, .v 2, .v 4]))
noncomputable def bl_w_judged_so_4 (C : Str → Addr) : DS :=
  (cRet (cAndV (cOp gEq [.v 9, .v 3]) (cAndV (cOp gEq [.v 11, .e (cOp gTupM [.e (cOp gEq [.v 9, .v 2]), .e (cOp (gI fun i j => i - j) [.v 10, .e (cOp gIx [.e (cCall (d_least C) [.v 1, .v 9]), .e (cC (.val (.int 0)))])])])]) (cOp (gIB fun i j => decide (j ≤ i)) [.e (cOp gIx [.v 11, .e (cC (.val (.int 1)))]), .e (cC (.val (.int 0)))]))))
noncomputable def b_w_judged_so (C : Str → Addr) : DS :=
  (cSeq (bl_w_judged_so_0 C)
    (cSeq (bl_w_judged_so_1 C)
    (cSeq (bl_w_judged_so_2 C)
    (cSeq (bl_w_judged_so_3 C)
    (bl_w_judged_so_4 C)))))
noncomputable def d_w_judged_so (C : Str → Addr) : DF := def0 3 9 (b_w_judged_so C)

/-! ### Task.way -/
noncomputable def b_Task_wayO (C : Str → Addr) : DS :=
  (cSeq (cSet 1 (cOp gLstM []))
    (cSeq (cFor (iSeq (fun m => (seqOf m).map (enumD 0)) (cFld (C "Task") 0 "wanted")) (gT 2 (gsC (gN 2) (gsC (gN 3) gsN))) (cSeq (cAsgG (gT 2 (gsC (gN 4) (gsC (gN 5) gsN))) (cMeth (C "Task") "chosen" (d_Task_chosen C) 0 [.v 2]))
    (cSeq (cExpr (cMut gExt 1 [.e (cLc (iSeq itemsM (cRev (cSl gSl (.v 3) .no (.e (cV 4))) (cOp (gU fun i => -i) [.e (cC (.val (.int 1)))]))) (gN 6) cYes (cOp gTupM [.v 6, .v 2, .e (cC (.val (.str "first")))]) [6])]))
    (cExpr (cMut gExt 1 [.e (cLc (iSeq itemsM (cSl gSl (.v 3) (.e (cV 5)) .no)) (gN 6) cYes (cOp gTupM [.v 6, .v 2, .e (cC (.val (.str "last")))]) [6])])))))
    (cRet (cMov 1))))
noncomputable def d_Task_wayO (C : Str → Addr) : DF := def0 1 6 (b_Task_wayO C)

/-! ### least -/
noncomputable def b_leastO (C : Str → Addr) : DS :=
  (cSeq (cSet 2 (cCall (d_task_of C) [.v 0, .v 1]))
    (cRet (cIf (cB (cMeth (C "Task") "may" (d_Task_may C) 2 [])) (cPr (cMeth (C "Task") "cost" (d_Task_cost C) 2 []) (cMeth (C "Task") "way" (d_Task_wayO C) 2 [])) (cC (.val .none)))))
noncomputable def d_leastO (C : Str → Addr) : DF := def0 2 1 (b_leastO C)

/-! ### law -/
noncomputable def bl_law_0 (C : Str → Addr) : DS :=
  (cAsgG (gT 2 (gsC (gN 8) (gsC (gN 9) gsN))) (cV 5))
noncomputable def bl_law_1 (C : Str → Addr) : DS :=
  (cIfS (cOr (cNot (cB (cOp (gIsi "list") [.v 9, .e (cC (.raw (.ty "list")))]))) (cOr (cB (cOp gNe [.e (cCall (d_done C) [.v 3, .v 9]), .e (cOp gTupM [.v 4, .v 8])])) (cB (cOp (gIB fun i j => decide (j < i)) [.v 6, .e (cOp gLen [.v 9])])))) (cRet (cC (.val (.bool false)))) cNx)
noncomputable def bl_law_2 (C : Str → Addr) : DS :=
  (cSet 10 (cFz (cLc (iSeq itemsM (cV 9)) (gN 12) cYes (cOp gIx [.v 12, .e (cC (.val (.int 0)))]) [12])))
noncomputable def bl_law_3 (C : Str → Addr) : DS :=
  (cIfS (cOr (cB (cOp gNe [.e (cLc (iSeq itemsM (cV 10)) (gN 13) (cB (cOp (gIB fun i j => decide (j < i)) [.e (cMRv gCount 10 [.v 13]), .e (cC (.val (.int 1)))])) (cV 13) [13]), .e (cOp gLstM [])])) (cB (cOp gNe [.e (cCall (d_judged C) [.v 3, .v 4, .v 9]), .e (cOp gTupM [.e (cC (.val (.bool true))), .e (cC (.val (.int 0)))])]))) (cRet (cC (.val (.bool false)))) cNx)
noncomputable def bl_law_4 (C : Str → Addr) : DS :=
  (cIfS (cAnd (cB (cOp gEq [.v 4, .e (cOp gIx [.v 3, .e (cC (.val (.int 1)))])])) (cB (cOp gNe [.e (cOp gTupM [.v 8, .v 9, .e (cCall (d_ways C) [.v 3, .v 4])]), .e (cOp gTupM [.e (cC (.val (.int 0))), .e (cFz (cOp gLstM [])), .e (cC (.val (.int 1)))])]))) (cRet (cC (.val (.bool false)))) cNx)
noncomputable def bl_law_5 (C : Str → Addr) : DS :=
  (cSet 11 (cCall (d_leastO C) [.v 3, .v 4]))
noncomputable def bl_law_6 (C : Str → Addr) : DS :=
  (cExpr (cPrApp 11 (.tuple [.int 0, .int 0, .str "first"])))
noncomputable def bl_law_7 (C : Str → Addr) : DS :=
  (cIfS (cB (cOp gNe [.e (cCall (d_least C) [.v 3, .v 4]), .v 5])) (cRet (cC (.val (.bool false)))) cNx)
noncomputable def bl_law_8 (C : Str → Addr) : DS :=
  (cSet 3 (cCall (d_w_shelf C) [.v 1, .e (cC (.val (.int 12))), .e (cC (.val (.int 5)))]))
noncomputable def bl_law_9 (C : Str → Addr) : DS :=
  (cSet 4 (cCall (d_w_goal C) [.v 1, .v 3]))
noncomputable def bl_law_10 (C : Str → Addr) : DS :=
  (cPar3 5 6 7 (cCall (d_least C) [.v 3, .v 4]) (cCall (d_fewest C) [.v 3, .v 4]) (cCall (d_barred C) [.v 3, .v 4]))
noncomputable def bl_law_11 (C : Str → Addr) : DS :=
  (cIfS (cB (cOp gNe [.e (cOp gLstM [.e (cOp gIsN [.v 5, .e (cC (.val .none))]), .e (cOp gIsN [.v 6, .e (cC (.val .none))]), .e (cOp gEq [.e (cCall (d_ways C) [.v 3, .v 4]), .e (cC (.val (.int 0)))])]), .e (cOp gMulV [.e (cOp gLstM [.e (cOp gNotN [.v 7, .e (cC (.val .none))])]), .e (cC (.val (.int 3)))])])) (cRet (cC (.val (.bool false)))) cNx)
noncomputable def bl_law_12 (C : Str → Addr) : DS :=
  (cIfS (cB (cOp gNotN [.v 5, .e (cC (.val .none))])) (cSeq (bl_law_0 C)
    (cSeq (bl_law_1 C)
    (cSeq (bl_law_2 C)
    (cSeq (bl_law_3 C)
    (cSeq (bl_law_4 C)
    (cSeq (bl_law_5 C)
    (cSeq (bl_law_6 C)
    (bl_law_7 C)))))))) cNx)
noncomputable def bl_law_13 (C : Str → Addr) : DS :=
  (cIfS (cNot (cB (cCall (d_w_judged_so C) [.v 1, .v 3, .v 4]))) (cRet (cC (.val (.bool false)))) cNx)
noncomputable def b_law (C : Str → Addr) : DS :=
  (cSeq (cSet 1 (cCall (d_w_start C) [.v 0]))
    (cSeq (cFor (iRng1D [.e (cC (.val (.int 4)))]) (gN 2) (cSeq (bl_law_8 C)
    (cSeq (bl_law_9 C)
    (cSeq (bl_law_10 C)
    (cSeq (bl_law_11 C)
    (cSeq (bl_law_12 C)
    (bl_law_13 C)))))))
    (cRet (cC (.val (.bool true))))))
noncomputable def d_law (C : Str → Addr) : DF := def0 1 13 (b_law C)

end Wk

namespace Wk
noncomputable section
open PySem PySem.Spec Sm Mp
abbrev eP : Option Int → PyData
  | none => .none
  | some i => .int i
abbrev ePs (ps : List (Option Int)) : PyData := .tuple (ps.map eP)
abbrev nI (n : Nat) : PyData := .int (n : Int)
abbrev eLot (l : List Nat) : PyData := .tuple (l.map nI)
abbrev eLots (ls : List (List Nat)) : PyData := .tuple (ls.map eLot)
abbrev eSh (ps : List (Option Int)) (ls : List (List Nat)) : PyData := .tuple [ePs ps, eLots ls]
abbrev eI (p : Nat × Nat) : PyData := .tuple [.int (p.2 : Int), nI p.1]
abbrev ePr (p : Nat × Nat) : PyData := .tuple [nI p.1, nI p.2]
abbrev ePrs (l : List (Nat × Nat)) : PyData := .list (l.map ePr)
abbrev vv (d : PyData) : M := .fl (.val d)
def pr (ps : List (Option Int)) (b : Nat) : Option Int := (ps[b]?).getD none
variable {C : Str → Addr}
theorem e_is_number (x lo hi : Int) : d_is_number C [.val (.int x), .val (.int lo), .val (.int hi)] = .ok (.val (.bool (decide (lo ≤ x ∧ x ≤ hi)))) [.val (.int x), .val (.int lo), .val (.int hi)] := by
  unfold d_is_number b_is_number
  by_cases h : lo ≤ x <;> simp [def0, cRet, cAndV, cNotV, cOp, cC, cV, cChain, cOrV, cOrT, cCall, cIfS, cNx, cBad, cSeq, cSet, cB, cAnd, cOr, cNot, cIf, cFz, cExpr, cMov, cYes, RE.bind, RE.toS, RS.then, evA, evP, Sm.Env.get, Sm.Env.put, Sm.Env.asg, getS, getM, startS, isCopy, lendC, backC, M.isHole, M.fz, M.view, Slot.cont, gN, gT, gsC, gsN, Sm.Env.wipe, Sm.Env.rest, wipeS, restS, cSl, asI, isLst, gApp, cMut, cPar, cPar3, cAsgG, LcOk, ForOk, RetOk, LcR, cLc, iSeq, itemsM, seqOf, gTupM, gLstM, valsOf, isi_int, isi_bool, isi_tup, isi_lst, len_tup, len_list, len_lst, g_sub, g_neg, g_add, g_lt, g_gt, g_le, g_ge, eq_int, ne_int, isN_int, isN_none, notN_int, notN_none, isN_tup, notN_tup, truD, h]
theorem e_is_price_none : d_is_price C [.val .none] = .ok (.val (.bool true)) [.val .none] := by
  unfold d_is_price b_is_price
  simp [def0, cRet, cAndV, cNotV, cOp, cC, cV, cChain, cOrV, cOrT, cCall, cIfS, cNx, cBad, cSeq, cSet, cB, cAnd, cOr, cNot, cIf, cFz, cExpr, cMov, cYes, RE.bind, RE.toS, RS.then, evA, evP, Sm.Env.get, Sm.Env.put, Sm.Env.asg, getS, getM, startS, isCopy, lendC, backC, M.isHole, M.fz, M.view, Slot.cont, gN, gT, gsC, gsN, Sm.Env.wipe, Sm.Env.rest, wipeS, restS, cSl, asI, isLst, gApp, cMut, cPar, cPar3, cAsgG, LcOk, ForOk, RetOk, LcR, cLc, iSeq, itemsM, seqOf, gTupM, gLstM, valsOf, isi_int, isi_bool, isi_tup, isi_lst, len_tup, len_list, len_lst, g_sub, g_neg, g_add, g_lt, g_gt, g_le, g_ge, eq_int, ne_int, isN_int, isN_none, notN_int, notN_none, isN_tup, notN_tup, truD]
theorem e_is_price (i : Int) : d_is_price C [.val (.int i)] = .ok (.val (.bool (decide (1 ≤ i ∧ i ≤ 99)))) [.val (.int i)] := by
  unfold d_is_price b_is_price
  simp [def0, cRet, cAndV, cNotV, cOp, cC, cV, cChain, cOrV, cOrT, cCall, cIfS, cNx, cBad, cSeq, cSet, cB, cAnd, cOr, cNot, cIf, cFz, cExpr, cMov, cYes, RE.bind, RE.toS, RS.then, evA, evP, Sm.Env.get, Sm.Env.put, Sm.Env.asg, getS, getM, startS, isCopy, lendC, backC, M.isHole, M.fz, M.view, Slot.cont, gN, gT, gsC, gsN, Sm.Env.wipe, Sm.Env.rest, wipeS, restS, cSl, asI, isLst, gApp, cMut, cPar, cPar3, cAsgG, LcOk, ForOk, RetOk, LcR, cLc, iSeq, itemsM, seqOf, gTupM, gLstM, valsOf, isi_int, isi_bool, isi_tup, isi_lst, len_tup, len_list, len_lst, g_sub, g_neg, g_add, g_lt, g_gt, g_le, g_ge, eq_int, ne_int, isN_int, isN_none, notN_int, notN_none, isN_tup, notN_tup, truD, e_is_number]
def price (ps : List (Option Int)) (l : List Nat) : Int := (l.map fun b => (pr ps b).getD 0).sum
theorem ix_sh0 (ps ls) : gIx [.val (eSh ps ls), .val (.int 0)] = some (.val (ePs ps)) := rfl
theorem ix_sh1 (ps ls) : gIx [.val (eSh ps ls), .val (.int 1)] = some (.val (eLots ls)) := rfl
theorem ix_ps (ps : List (Option Int)) {b : Nat} (h : b < ps.length) : gIx [.val (ePs ps), .val (nI b)] = some (.val (eP (pr ps b))) := by
  rw [ix_nat (by simpa using h)]
  simp [h, pr]
theorem intsOf_map (f : Nat → Int) : ∀ l : List Nat, intsOf (l.map fun b => PyData.int (f b)) = some (l.map f)
  | [] => rfl
  | b :: l => by simp [intsOf, intsOf_map f l]
theorem e_price_in (ps ls) (l : List Nat) (hl : ∀ b ∈ l, b < ps.length) (hz : l.length ≤ 1000) : d_price_in C [.val (eSh ps ls), .val (eLot l)] = .ok (.val (.int (price ps l))) [.val (eSh ps ls), .val (eLot l)] := by
  unfold d_price_in b_price_in
  simp [def0, cRet, cAndV, cNotV, cOp, cC, cV, cChain, cOrV, cOrT, cCall, cIfS, cNx, cBad, cSeq, cSet, cB, cAnd, cOr, cNot, cIf, cFz, cExpr, cMov, cYes, RE.bind, RE.toS, RS.then, evA, evP, Sm.Env.get, Sm.Env.put, Sm.Env.asg, getS, getM, startS, isCopy, lendC, backC, M.isHole, M.fz, M.view, Slot.cont, gN, gT, gsC, gsN, Sm.Env.wipe, Sm.Env.rest, wipeS, restS, cSl, asI, isLst, gApp, cMut, cPar, cPar3, cAsgG, LcOk, ForOk, RetOk, LcR, cLc, iSeq, itemsM, seqOf, gTupM, gLstM, valsOf, isi_int, isi_bool, isi_tup, isi_lst, len_tup, len_list, len_lst, g_sub, g_neg, g_add, g_lt, g_gt, g_le, g_ge, eq_int, ne_int, isN_int, isN_none, notN_int, notN_none, isN_tup, notN_tup, truD]
  rw [lc_ofY (fun b => .int ((pr ps b).getD 0)) (fun b hb => ?_) (by omega)]
  · simp [def0, cRet, cAndV, cNotV, cOp, cC, cV, cChain, cOrV, cOrT, cCall, cIfS, cNx, cBad, cSeq, cSet, cB, cAnd, cOr, cNot, cIf, cFz, cExpr, cMov, cYes, RE.bind, RE.toS, RS.then, evA, evP, Sm.Env.get, Sm.Env.put, Sm.Env.asg, getS, getM, startS, isCopy, lendC, backC, M.isHole, M.fz, M.view, Slot.cont, gN, gT, gsC, gsN, Sm.Env.wipe, Sm.Env.rest, wipeS, restS, cSl, asI, isLst, gApp, cMut, cPar, cPar3, cAsgG, LcOk, ForOk, RetOk, LcR, cLc, iSeq, itemsM, seqOf, gTupM, gLstM, valsOf, isi_int, isi_bool, isi_tup, isi_lst, len_tup, len_list, len_lst, g_sub, g_neg, g_add, g_lt, g_gt, g_le, g_ge, eq_int, ne_int, isN_int, isN_none, notN_int, notN_none, isN_tup, notN_tup, truD, sum_map (fun b => (pr ps b).getD 0), price]
  · have h1 := hl b hb
    cases q : pr ps b with
    | none => simp [def0, cRet, cAndV, cNotV, cOp, cC, cV, cChain, cOrV, cOrT, cCall, cIfS, cNx, cBad, cSeq, cSet, cB, cAnd, cOr, cNot, cIf, cFz, cExpr, cMov, cYes, RE.bind, RE.toS, RS.then, evA, evP, Sm.Env.get, Sm.Env.put, Sm.Env.asg, getS, getM, startS, isCopy, lendC, backC, M.isHole, M.fz, M.view, Slot.cont, gN, gT, gsC, gsN, Sm.Env.wipe, Sm.Env.rest, wipeS, restS, cSl, asI, isLst, gApp, cMut, cPar, cPar3, cAsgG, LcOk, ForOk, RetOk, LcR, cLc, iSeq, itemsM, seqOf, gTupM, gLstM, valsOf, isi_int, isi_bool, isi_tup, isi_lst, len_tup, len_list, len_lst, g_sub, g_neg, g_add, g_lt, g_gt, g_le, g_ge, eq_int, ne_int, isN_int, isN_none, notN_int, notN_none, isN_tup, notN_tup, truD, ix_sh0, ix_ps ps h1, q]
    | some i =>
      by_cases h : i = 0
      · simp [def0, cRet, cAndV, cNotV, cOp, cC, cV, cChain, cOrV, cOrT, cCall, cIfS, cNx, cBad, cSeq, cSet, cB, cAnd, cOr, cNot, cIf, cFz, cExpr, cMov, cYes, RE.bind, RE.toS, RS.then, evA, evP, Sm.Env.get, Sm.Env.put, Sm.Env.asg, getS, getM, startS, isCopy, lendC, backC, M.isHole, M.fz, M.view, Slot.cont, gN, gT, gsC, gsN, Sm.Env.wipe, Sm.Env.rest, wipeS, restS, cSl, asI, isLst, gApp, cMut, cPar, cPar3, cAsgG, LcOk, ForOk, RetOk, LcR, cLc, iSeq, itemsM, seqOf, gTupM, gLstM, valsOf, isi_int, isi_bool, isi_tup, isi_lst, len_tup, len_list, len_lst, g_sub, g_neg, g_add, g_lt, g_gt, g_le, g_ge, eq_int, ne_int, isN_int, isN_none, notN_int, notN_none, isN_tup, notN_tup, truD, ix_sh0, ix_ps ps h1, q, h]
      · have h' : (i != 0) = true := by simp [h]
        simp [def0, cRet, cAndV, cNotV, cOp, cC, cV, cChain, cOrV, cOrT, cCall, cIfS, cNx, cBad, cSeq, cSet, cB, cAnd, cOr, cNot, cIf, cFz, cExpr, cMov, cYes, RE.bind, RE.toS, RS.then, evA, evP, Sm.Env.get, Sm.Env.put, Sm.Env.asg, getS, getM, startS, isCopy, lendC, backC, M.isHole, M.fz, M.view, Slot.cont, gN, gT, gsC, gsN, Sm.Env.wipe, Sm.Env.rest, wipeS, restS, cSl, asI, isLst, gApp, cMut, cPar, cPar3, cAsgG, LcOk, ForOk, RetOk, LcR, cLc, iSeq, itemsM, seqOf, gTupM, gLstM, valsOf, isi_int, isi_bool, isi_tup, isi_lst, len_tup, len_list, len_lst, g_sub, g_neg, g_add, g_lt, g_gt, g_le, g_ge, eq_int, ne_int, isN_int, isN_none, notN_int, notN_none, isN_tup, notN_tup, truD, ix_sh0, ix_ps ps h1, q, h']
theorem e_price_inL (ps ls) (l : List Nat) (hl : ∀ b ∈ l, b < ps.length) (hz : l.length ≤ 1000) : d_price_in C [.val (eSh ps ls), .val (.list (l.map nI))] = .ok (.val (.int (price ps l))) [.val (eSh ps ls), .val (.list (l.map nI))] := by
  unfold d_price_in b_price_in
  simp [def0, cRet, cAndV, cNotV, cOp, cC, cV, cChain, cOrV, cOrT, cCall, cIfS, cNx, cBad, cSeq, cSet, cB, cAnd, cOr, cNot, cIf, cFz, cExpr, cMov, cYes, RE.bind, RE.toS, RS.then, evA, evP, Sm.Env.get, Sm.Env.put, Sm.Env.asg, getS, getM, startS, isCopy, lendC, backC, M.isHole, M.fz, M.view, Slot.cont, gN, gT, gsC, gsN, Sm.Env.wipe, Sm.Env.rest, wipeS, restS, cSl, asI, isLst, gApp, cMut, cPar, cPar3, cAsgG, LcOk, ForOk, RetOk, LcR, cLc, iSeq, itemsM, seqOf, gTupM, gLstM, valsOf, isi_int, isi_bool, isi_tup, isi_lst, len_tup, len_list, len_lst, g_sub, g_neg, g_add, g_lt, g_gt, g_le, g_ge, eq_int, ne_int, isN_int, isN_none, notN_int, notN_none, isN_tup, notN_tup, truD]
  rw [lc_ofY (fun b => .int ((pr ps b).getD 0)) (fun b hb => ?_) (by omega)]
  · simp [def0, cRet, cAndV, cNotV, cOp, cC, cV, cChain, cOrV, cOrT, cCall, cIfS, cNx, cBad, cSeq, cSet, cB, cAnd, cOr, cNot, cIf, cFz, cExpr, cMov, cYes, RE.bind, RE.toS, RS.then, evA, evP, Sm.Env.get, Sm.Env.put, Sm.Env.asg, getS, getM, startS, isCopy, lendC, backC, M.isHole, M.fz, M.view, Slot.cont, gN, gT, gsC, gsN, Sm.Env.wipe, Sm.Env.rest, wipeS, restS, cSl, asI, isLst, gApp, cMut, cPar, cPar3, cAsgG, LcOk, ForOk, RetOk, LcR, cLc, iSeq, itemsM, seqOf, gTupM, gLstM, valsOf, isi_int, isi_bool, isi_tup, isi_lst, len_tup, len_list, len_lst, g_sub, g_neg, g_add, g_lt, g_gt, g_le, g_ge, eq_int, ne_int, isN_int, isN_none, notN_int, notN_none, isN_tup, notN_tup, truD, sum_map (fun b => (pr ps b).getD 0), price]
  · have h1 := hl b hb
    cases q : pr ps b with
    | none => simp [def0, cRet, cAndV, cNotV, cOp, cC, cV, cChain, cOrV, cOrT, cCall, cIfS, cNx, cBad, cSeq, cSet, cB, cAnd, cOr, cNot, cIf, cFz, cExpr, cMov, cYes, RE.bind, RE.toS, RS.then, evA, evP, Sm.Env.get, Sm.Env.put, Sm.Env.asg, getS, getM, startS, isCopy, lendC, backC, M.isHole, M.fz, M.view, Slot.cont, gN, gT, gsC, gsN, Sm.Env.wipe, Sm.Env.rest, wipeS, restS, cSl, asI, isLst, gApp, cMut, cPar, cPar3, cAsgG, LcOk, ForOk, RetOk, LcR, cLc, iSeq, itemsM, seqOf, gTupM, gLstM, valsOf, isi_int, isi_bool, isi_tup, isi_lst, len_tup, len_list, len_lst, g_sub, g_neg, g_add, g_lt, g_gt, g_le, g_ge, eq_int, ne_int, isN_int, isN_none, notN_int, notN_none, isN_tup, notN_tup, truD, ix_sh0, ix_ps ps h1, q]
    | some i =>
      by_cases h : i = 0
      · simp [def0, cRet, cAndV, cNotV, cOp, cC, cV, cChain, cOrV, cOrT, cCall, cIfS, cNx, cBad, cSeq, cSet, cB, cAnd, cOr, cNot, cIf, cFz, cExpr, cMov, cYes, RE.bind, RE.toS, RS.then, evA, evP, Sm.Env.get, Sm.Env.put, Sm.Env.asg, getS, getM, startS, isCopy, lendC, backC, M.isHole, M.fz, M.view, Slot.cont, gN, gT, gsC, gsN, Sm.Env.wipe, Sm.Env.rest, wipeS, restS, cSl, asI, isLst, gApp, cMut, cPar, cPar3, cAsgG, LcOk, ForOk, RetOk, LcR, cLc, iSeq, itemsM, seqOf, gTupM, gLstM, valsOf, isi_int, isi_bool, isi_tup, isi_lst, len_tup, len_list, len_lst, g_sub, g_neg, g_add, g_lt, g_gt, g_le, g_ge, eq_int, ne_int, isN_int, isN_none, notN_int, notN_none, isN_tup, notN_tup, truD, ix_sh0, ix_ps ps h1, q, h]
      · have h' : (i != 0) = true := by simp [h]
        simp [def0, cRet, cAndV, cNotV, cOp, cC, cV, cChain, cOrV, cOrT, cCall, cIfS, cNx, cBad, cSeq, cSet, cB, cAnd, cOr, cNot, cIf, cFz, cExpr, cMov, cYes, RE.bind, RE.toS, RS.then, evA, evP, Sm.Env.get, Sm.Env.put, Sm.Env.asg, getS, getM, startS, isCopy, lendC, backC, M.isHole, M.fz, M.view, Slot.cont, gN, gT, gsC, gsN, Sm.Env.wipe, Sm.Env.rest, wipeS, restS, cSl, asI, isLst, gApp, cMut, cPar, cPar3, cAsgG, LcOk, ForOk, RetOk, LcR, cLc, iSeq, itemsM, seqOf, gTupM, gLstM, valsOf, isi_int, isi_bool, isi_tup, isi_lst, len_tup, len_list, len_lst, g_sub, g_neg, g_add, g_lt, g_gt, g_le, g_ge, eq_int, ne_int, isN_int, isN_none, notN_int, notN_none, isN_tup, notN_tup, truD, ix_sh0, ix_ps ps h1, q, h']
def fixedIn (ps : List (Option Int)) (l : List Nat) : List Nat := l.filter fun b => decide (pr ps b = none)
theorem e_fixed_in (ps ls) (l : List Nat) (hl : ∀ b ∈ l, b < ps.length) (hz : l.length ≤ 1000) : d_fixed_in C [.val (eSh ps ls), .val (eLot l)] = .ok (.val (.list ((fixedIn ps l).map nI))) [.val (eSh ps ls), .val (eLot l)] := by
  unfold d_fixed_in b_fixed_in
  simp [def0, cRet, cAndV, cNotV, cOp, cC, cV, cChain, cOrV, cOrT, cCall, cIfS, cNx, cBad, cSeq, cSet, cB, cAnd, cOr, cNot, cIf, cFz, cExpr, cMov, cYes, RE.bind, RE.toS, RS.then, evA, evP, Sm.Env.get, Sm.Env.put, Sm.Env.asg, getS, getM, startS, isCopy, lendC, backC, M.isHole, M.fz, M.view, Slot.cont, gN, gT, gsC, gsN, Sm.Env.wipe, Sm.Env.rest, wipeS, restS, cSl, asI, isLst, gApp, cMut, cPar, cPar3, cAsgG, LcOk, ForOk, RetOk, LcR, cLc, iSeq, itemsM, seqOf, gTupM, gLstM, valsOf, isi_int, isi_bool, isi_tup, isi_lst, len_tup, len_list, len_lst, g_sub, g_neg, g_add, g_lt, g_gt, g_le, g_ge, eq_int, ne_int, isN_int, isN_none, notN_int, notN_none, isN_tup, notN_tup, truD]
  rw [lc_of (fun b => decide (pr ps b = none)) nI (fun b hb => ?_) (by omega)]
  · simp [def0, cRet, cAndV, cNotV, cOp, cC, cV, cChain, cOrV, cOrT, cCall, cIfS, cNx, cBad, cSeq, cSet, cB, cAnd, cOr, cNot, cIf, cFz, cExpr, cMov, cYes, RE.bind, RE.toS, RS.then, evA, evP, Sm.Env.get, Sm.Env.put, Sm.Env.asg, getS, getM, startS, isCopy, lendC, backC, M.isHole, M.fz, M.view, Slot.cont, gN, gT, gsC, gsN, Sm.Env.wipe, Sm.Env.rest, wipeS, restS, cSl, asI, isLst, gApp, cMut, cPar, cPar3, cAsgG, LcOk, ForOk, RetOk, LcR, cLc, iSeq, itemsM, seqOf, gTupM, gLstM, valsOf, isi_int, isi_bool, isi_tup, isi_lst, len_tup, len_list, len_lst, g_sub, g_neg, g_add, g_lt, g_gt, g_le, g_ge, eq_int, ne_int, isN_int, isN_none, notN_int, notN_none, isN_tup, notN_tup, truD, fixedIn]
  · have h1 := hl b hb
    cases q : pr ps b with
    | none => simp [def0, cRet, cAndV, cNotV, cOp, cC, cV, cChain, cOrV, cOrT, cCall, cIfS, cNx, cBad, cSeq, cSet, cB, cAnd, cOr, cNot, cIf, cFz, cExpr, cMov, cYes, RE.bind, RE.toS, RS.then, evA, evP, Sm.Env.get, Sm.Env.put, Sm.Env.asg, getS, getM, startS, isCopy, lendC, backC, M.isHole, M.fz, M.view, Slot.cont, gN, gT, gsC, gsN, Sm.Env.wipe, Sm.Env.rest, wipeS, restS, cSl, asI, isLst, gApp, cMut, cPar, cPar3, cAsgG, LcOk, ForOk, RetOk, LcR, cLc, iSeq, itemsM, seqOf, gTupM, gLstM, valsOf, isi_int, isi_bool, isi_tup, isi_lst, len_tup, len_list, len_lst, g_sub, g_neg, g_add, g_lt, g_gt, g_le, g_ge, eq_int, ne_int, isN_int, isN_none, notN_int, notN_none, isN_tup, notN_tup, truD, ix_sh0, ix_ps ps h1, q]
    | some i => simp [def0, cRet, cAndV, cNotV, cOp, cC, cV, cChain, cOrV, cOrT, cCall, cIfS, cNx, cBad, cSeq, cSet, cB, cAnd, cOr, cNot, cIf, cFz, cExpr, cMov, cYes, RE.bind, RE.toS, RS.then, evA, evP, Sm.Env.get, Sm.Env.put, Sm.Env.asg, getS, getM, startS, isCopy, lendC, backC, M.isHole, M.fz, M.view, Slot.cont, gN, gT, gsC, gsN, Sm.Env.wipe, Sm.Env.rest, wipeS, restS, cSl, asI, isLst, gApp, cMut, cPar, cPar3, cAsgG, LcOk, ForOk, RetOk, LcR, cLc, iSeq, itemsM, seqOf, gTupM, gLstM, valsOf, isi_int, isi_bool, isi_tup, isi_lst, len_tup, len_list, len_lst, g_sub, g_neg, g_add, g_lt, g_gt, g_le, g_ge, eq_int, ne_int, isN_int, isN_none, notN_int, notN_none, isN_tup, notN_tup, truD, ix_sh0, ix_ps ps h1, q]
end
end Wk

namespace Wk
noncomputable section
open PySem PySem.Spec Sm Mp
variable {C : Str → Addr}
/-! ### dict comprehensions over distinct keys -/
def DcOk (g : DG) (ke ve : DE) (own : List Nat) (e : Sm.Env) (d : PyData) (k y : PyData) : Prop := match g d e with
  | some e1 => (match ke e1 with
    | .ok n e2 => n = .val k ∧ (match ve e2 with
      | .ok m e3 => m = .val y ∧ e3.wipe own = e
      | _ => False)
    | _ => False)
  | none => False
theorem putD_new {kvs : KVs} {k : L2.Key} {d : PyData} (h : ∀ p ∈ kvs, p.1 ≠ k) : putD kvs k d = kvs ++ [(k, d)] := by
  unfold putD
  rw [if_neg]
  intro h'
  obtain ⟨p, hp, hk⟩ := List.any_eq_true.mp h'
  exact h p hp (of_decide_eq_true hk)
theorem dc_ofA {α : Type} {g : DG} {ke ve : DE} {own : List Nat} {e : Sm.Env} {enc : α → PyData} (k : α → Nat) (f : α → PyData) : ∀ (l : List α) (acc : KVs), (∀ a ∈ l, DcOk g ke ve own e (enc a) (.int (k a : Int)) (f a)) → (l.map k).Nodup → (∀ a ∈ l, ∀ p ∈ acc, p.1 ≠ .inl (k a : Int)) → acc.length + l.length ≤ 16777216 →
    dcD g cYes ke ve own (l.map enc) e acc = .ok (acc ++ l.map fun a => (.inl (k a : Int), f a)) e
  | [], acc, _, _, _, _ => by simp [dcD]
  | a :: l, acc, h, hn, hd, hl => by
    have h1 := h a (by simp)
    have hn' := List.nodup_cons.mp (by simpa using hn : (k a :: l.map k).Nodup)
    rw [List.map_cons, dcD_cons]
    unfold DcOk at h1
    cases q1 : g (enc a) e with
    | none => rw [q1] at h1; exact h1.elim
    | some e1 =>
      rw [q1] at h1
      dsimp only [cYes] at h1 ⊢
      cases q2 : ke e1 with
      | bad => rw [q2] at h1; exact h1.elim
      | exc x e2 => rw [q2] at h1; exact h1.elim
      | ok n e2 =>
        rw [q2] at h1
        obtain ⟨rfl, h2⟩ := h1
        dsimp only at h2 ⊢
        cases q3 : ve e2 with
        | bad => rw [q3] at h2; exact h2.elim
        | exc x e2 => rw [q3] at h2; exact h2.elim
        | ok m e3 =>
          rw [q3] at h2
          obtain ⟨rfl, h3⟩ := h2
          have hp : dputK (.val (.int (k a : Int))) (.val (f a)) acc = some (acc ++ [(.inl (k a : Int), f a)]) := by
            have e1 : dputK (.val (.int (k a : Int))) (.val (f a)) acc = if acc.length < 16777216 then some (putD acc (.inl (k a : Int)) (f a)) else none := rfl
            rw [e1, if_pos (by simp at hl; omega), putD_new (hd a (by simp))]
          dsimp only
          rw [hp]
          dsimp only
          rw [h3, dc_ofA k f l _ (fun a ha => h a (List.mem_cons_of_mem _ ha)) hn'.2 (fun b hb p hp => ?_) (by simp at hl ⊢; omega)]
          · simp
          · rcases List.mem_append.mp hp with z | z
            · exact hd b (List.mem_cons_of_mem _ hb) p z
            · have : p = (.inl (k a : Int), f a) := by simpa using z
              subst this
              intro z2
              have z3 : (k a : Int) = (k b : Int) := by injection z2
              exact hn'.1 (List.mem_map.mpr ⟨b, hb, by omega⟩)
theorem dc_of {α : Type} {g : DG} {ke ve : DE} {own : List Nat} {e : Sm.Env} {enc : α → PyData} (k : α → Nat) (f : α → PyData) {l : List α} (h : ∀ a ∈ l, DcOk g ke ve own e (enc a) (.int (k a : Int)) (f a)) (hn : (l.map k).Nodup) (hl : l.length ≤ 16777216) :
    dcD g cYes ke ve own (l.map enc) e [] = .ok (l.map fun a => (.inl (k a : Int), f a)) e := by
  have := dc_ofA (g := g) (ke := ke) (ve := ve) (own := own) (e := e) (enc := enc) k f l [] h hn (fun _ _ p hp => by cases hp) (by simpa using hl)
  simpa using this
/-! ### places -/
def kvOf (l : List (Nat × Nat)) : KVs := l.map fun p => (.inl (p.1 : Int), .int (p.2 : Int))
def pos (lot : List Nat) (b : Nat) : Int := if b ∈ lot then (lot.idxOf b : Int) else -1
theorem valD_kv : ∀ (lot : List Nat) (n b : Nat), valD (kvOf (lot.zipIdx n)) (.inl (b : Int)) = if b ∈ lot then some (.int ((n + lot.idxOf b : Nat) : Int)) else none
  | [], n, b => rfl
  | c :: lot, n, b => by
    by_cases h : c = b
    · subst h
      simp [kvOf, valD, List.zipIdx_cons, List.find?_cons, List.idxOf_cons]
    · have h1 : ¬ ((c : Int) = (b : Int)) := by omega
      have := valD_kv lot (n + 1) b
      have e1 : valD (kvOf ((c :: lot).zipIdx n)) (.inl (b : Int)) = valD (kvOf (lot.zipIdx (n + 1))) (.inl (b : Int)) := by
        simp [kvOf, valD, List.zipIdx_cons, List.find?_cons, h1]
      rw [e1, this]
      have h2 : ¬ b = c := fun z => h z.symm
      by_cases h3 : b ∈ lot
      · rw [if_pos h3, if_pos (List.mem_cons_of_mem _ h3), List.idxOf_cons, beq_false_of_ne h]
        simp only [cond_false]
        congr 2; omega
      · rw [if_neg h3, if_neg (by simp [h2, h3])]
def run (lot : List Nat) (first : Nat) : List Nat → Nat → Int → List (Nat × Nat)
  | [], _, _ => []
  | b :: r, past, ahead => if ahead < pos lot b then (first, past + 1) :: run lot first r (past + 1) (pos lot b) else []
def standing (lot goal : List Nat) : List (Nat × Nat) := (List.range goal.length).flatMap fun f => run lot f (goal.drop f) f (-1)
theorem run_length (lot : List Nat) (first : Nat) : ∀ (r : List Nat) (p : Nat) (a : Int), (run lot first r p a).length ≤ r.length
  | [], _, _ => Nat.le_refl _
  | b :: r, p, a => by
    unfold run
    split
    · simp; exact run_length lot first r _ _
    · simp
theorem ix_lot (l : List Nat) {i : Nat} (h : i < l.length) : gIx [.val (eLot l), .val (nI i)] = some (.val (nI l[i])) := by
  rw [ix_nat (by simpa using h)]
  simp
theorem b62_nat {n : Nat} (h : n ≤ 1000000) : b62 (n : Int) = true := decide_eq_true (by omega)
theorem int1_of (j : Int) (h : b62 j = true) : int1 [.val (.int j)] = some j := by
  simp only [int1, h]
theorem int1_nat {n : Nat} (h : n ≤ 1000000) : int1 [.val (.int (n : Int))] = some (n : Int) := int1_of _ (b62_nat h)
theorem toNat_nat (n : Nat) : ((n : Int)).toNat = n := Int.toNat_natCast n
abbrev whC : DT := cAnd (cB (cOp (gIB fun i j => decide (i < j)) [OpD.v 5, OpD.e (cOp gLen [OpD.v 1])])) (cB (cOp (gIB fun i j => decide (j < i)) [OpD.e (cDGet2 2 (cOp gIx [OpD.v 1, OpD.v 5]) (cOp (gU fun i => -i) [OpD.e (cC (M.val (PyData.int 1)))])), OpD.v 6]))
abbrev whB : DS := cSeq (cSet 6 (cDGet 2 (cOp gIx [OpD.v 1, OpD.v 5]))) (cSeq (cAug 5 (fun i j => i + j) (cC (M.val (PyData.int 1)))) (cExpr (cMut gApp 3 [OpD.e (cOp gTupM [OpD.v 4, OpD.v 5])])))
abbrev stE (lot goal : List Nat) (acc : List (Nat × Nat)) (first past : Nat) (ahead : Int) (j7 j8 : Slot) (a : List M) : Sm.Env :=
  ⟨[.own (vv (eLot lot)), .own (vv (eLot goal)), .own (.dct (kvOf lot.zipIdx)), .own (.lst (acc.map ePr)), .own (vv (nI first)), .own (vv (nI past)), .own (vv (.int ahead)), j7, j8], a⟩
theorem while_run (lot goal : List Nat) (first : Nat) (j7 j8 : Slot) (a : List M) (hz : goal.length ≤ 1000) : ∀ (r : List Nat) (past : Nat) (ahead : Int) (acc : List (Nat × Nat)) (k : Nat), goal.drop past = r → r.length < k → acc.length + r.length ≤ 1000000 → -1 ≤ ahead →
    ∃ p' a', whileD whC whB k (stE lot goal acc first past ahead j7 j8 a) = .nx (stE lot goal (acc ++ run lot first r past ahead) first p' a' j7 j8 a) := by
  intro r
  induction r with
  | nil =>
    intro past ahead acc k hd hk hl ha
    obtain ⟨k, rfl⟩ : ∃ k', k = k' + 1 := ⟨k - 1, by omega⟩
    have hp : ¬ ((past : Int) < (goal.length : Int)) := by
      have := List.drop_eq_nil_iff.mp hd
      omega
    refine ⟨past, ahead, ?_⟩
    unfold whileD
    simp [def0, cRet, cAndV, cNotV, cOp, cC, cV, cChain, cOrV, cOrT, cCall, cIfS, cNx, cBad, cSeq, cSet, cB, cAnd, cOr, cNot, cIf, cFz, cExpr, cMov, cYes, RE.bind, RE.toS, RS.then, evA, evP, Sm.Env.get, Sm.Env.put, Sm.Env.asg, getS, getM, startS, isCopy, lendC, backC, M.isHole, M.fz, M.view, Slot.cont, gN, gT, gsC, gsN, Sm.Env.wipe, Sm.Env.rest, wipeS, restS, cSl, asI, isLst, gApp, cMut, cPar, cPar3, cAsgG, LcOk, ForOk, RetOk, LcR, cLc, iSeq, itemsM, seqOf, gTupM, gLstM, valsOf, isi_int, isi_bool, isi_tup, isi_lst, len_tup, len_list, len_lst, g_sub, g_neg, g_add, g_lt, g_gt, g_le, g_ge, eq_int, ne_int, isN_int, isN_none, notN_int, notN_none, isN_tup, notN_tup, truD, whC, hp, run, len_tup]
  | cons b r ih =>
    intro past ahead acc k hd hk hl ha
    obtain ⟨k, rfl⟩ : ∃ k', k = k' + 1 := ⟨k - 1, by omega⟩
    have hlt : past < goal.length := by
      apply Classical.byContradiction; intro z
      rw [List.drop_eq_nil_of_le (by omega)] at hd; cases hd
    have hb : goal[past] = b := by
      have := List.drop_eq_getElem_cons hlt
      rw [hd] at this
      exact (List.cons.inj this).1.symm
    have hdd : goal.drop (past + 1) = r := by
      have := List.drop_eq_getElem_cons hlt
      rw [hd] at this
      exact (List.cons.inj this).2.symm
    have hp : ((past : Int) < (goal.length : Int)) := by omega
    have hq : (valD (kvOf lot.zipIdx) (.inl (b : Int))).getD (.int (-1)) = .int (pos lot b) := by
      rw [valD_kv]
      unfold pos
      by_cases h : b ∈ lot
      · rw [if_pos h, if_pos h]; simp
      · rw [if_neg h, if_neg h]; rfl
    by_cases hg : ahead < pos lot b
    · have hb2 : b ∈ lot := by
        apply Classical.byContradiction; intro z
        unfold pos at hg
        rw [if_neg z] at hg; omega
      have hv : valD (kvOf lot.zipIdx) (.inl (b : Int)) = some (.int (pos lot b)) := by
        rw [valD_kv, if_pos hb2]; unfold pos; rw [if_pos hb2]; simp
      obtain ⟨p', a', h⟩ := ih (past + 1) (pos lot b) (acc ++ [(first, past + 1)]) k hdd (by simpa using hk) (by simp at hl ⊢; omega) (by omega)
      refine ⟨p', a', ?_⟩
      have hz2 : acc.length < 16777216 := by omega
      unfold whileD
      simp [def0, cRet, cAndV, cNotV, cOp, cC, cV, cChain, cOrV, cOrT, cCall, cIfS, cNx, cBad, cSeq, cSet, cB, cAnd, cOr, cNot, cIf, cFz, cExpr, cMov, cYes, RE.bind, RE.toS, RS.then, evA, evP, Sm.Env.get, Sm.Env.put, Sm.Env.asg, getS, getM, startS, isCopy, lendC, backC, M.isHole, M.fz, M.view, Slot.cont, gN, gT, gsC, gsN, Sm.Env.wipe, Sm.Env.rest, wipeS, restS, cSl, asI, isLst, gApp, cMut, cPar, cPar3, cAsgG, LcOk, ForOk, RetOk, LcR, cLc, iSeq, itemsM, seqOf, gTupM, gLstM, valsOf, isi_int, isi_bool, isi_tup, isi_lst, len_tup, len_list, len_lst, g_sub, g_neg, g_add, g_lt, g_gt, g_le, g_ge, eq_int, ne_int, isN_int, isN_none, notN_int, notN_none, isN_tup, notN_tup, truD, whC, whB, hp, len_tup, cDGet2, isDct, ix_lot goal hlt, hb, dget2M, keyM, keyD, dctOf, valOf, hq, hg, cDGet, hv, cAug, hz2, g_neg]

      have e1 : run lot first (b :: r) past ahead = (first, past + 1) :: run lot first r (past + 1) (pos lot b) := by
        show (if ahead < pos lot b then _ else _) = _
        rw [if_pos hg]
      rw [e1]
      simp only [stE, List.map_append, List.map_cons, List.map_nil, List.append_assoc, List.cons_append, List.nil_append] at h ⊢
      exact h
    · refine ⟨past, ahead, ?_⟩
      unfold whileD
      simp [def0, cRet, cAndV, cNotV, cOp, cC, cV, cChain, cOrV, cOrT, cCall, cIfS, cNx, cBad, cSeq, cSet, cB, cAnd, cOr, cNot, cIf, cFz, cExpr, cMov, cYes, RE.bind, RE.toS, RS.then, evA, evP, Sm.Env.get, Sm.Env.put, Sm.Env.asg, getS, getM, startS, isCopy, lendC, backC, M.isHole, M.fz, M.view, Slot.cont, gN, gT, gsC, gsN, Sm.Env.wipe, Sm.Env.rest, wipeS, restS, cSl, asI, isLst, gApp, cMut, cPar, cPar3, cAsgG, LcOk, ForOk, RetOk, LcR, cLc, iSeq, itemsM, seqOf, gTupM, gLstM, valsOf, isi_int, isi_bool, isi_tup, isi_lst, len_tup, len_list, len_lst, g_sub, g_neg, g_add, g_lt, g_gt, g_le, g_ge, eq_int, ne_int, isN_int, isN_none, notN_int, notN_none, isN_tup, notN_tup, truD, whC, hp, run, len_tup, cDGet2, isDct, ix_lot goal hlt, hb, dget2M, keyM, keyD, dctOf, valOf, hq, hg, g_neg]
theorem e_standing (lot goal : List Nat) (hn : lot.Nodup) (h1 : lot.length ≤ 1000) (h2 : goal.length ≤ 100) : d_standing C [.val (eLot lot), .val (eLot goal)] = .ok (.val (ePrs (standing lot goal))) [.val (eLot lot), .val (eLot goal)] := by
  unfold d_standing b_standing
  simp [def0, cRet, cAndV, cNotV, cOp, cC, cV, cChain, cOrV, cOrT, cCall, cIfS, cNx, cBad, cSeq, cSet, cB, cAnd, cOr, cNot, cIf, cFz, cExpr, cMov, cYes, RE.bind, RE.toS, RS.then, evA, evP, Sm.Env.get, Sm.Env.put, Sm.Env.asg, getS, getM, startS, isCopy, lendC, backC, M.isHole, M.fz, M.view, Slot.cont, gN, gT, gsC, gsN, Sm.Env.wipe, Sm.Env.rest, wipeS, restS, cSl, asI, isLst, gApp, cMut, cPar, cPar3, cAsgG, LcOk, ForOk, RetOk, LcR, cLc, iSeq, itemsM, seqOf, gTupM, gLstM, valsOf, isi_int, isi_bool, isi_tup, isi_lst, len_tup, len_list, len_lst, g_sub, g_neg, g_add, g_lt, g_gt, g_le, g_ge, eq_int, ne_int, isN_int, isN_none, notN_int, notN_none, isN_tup, notN_tup, truD, cDc, enum_map]
  rw [dc_of (fun p : Nat × Nat => p.1) (fun p => .int (p.2 : Int)) (fun p hp => by simp [def0, cRet, cAndV, cNotV, cOp, cC, cV, cChain, cOrV, cOrT, cCall, cIfS, cNx, cBad, cSeq, cSet, cB, cAnd, cOr, cNot, cIf, cFz, cExpr, cMov, cYes, RE.bind, RE.toS, RS.then, evA, evP, Sm.Env.get, Sm.Env.put, Sm.Env.asg, getS, getM, startS, isCopy, lendC, backC, M.isHole, M.fz, M.view, Slot.cont, gN, gT, gsC, gsN, Sm.Env.wipe, Sm.Env.rest, wipeS, restS, cSl, asI, isLst, gApp, cMut, cPar, cPar3, cAsgG, LcOk, ForOk, RetOk, LcR, cLc, iSeq, itemsM, seqOf, gTupM, gLstM, valsOf, isi_int, isi_bool, isi_tup, isi_lst, len_tup, len_list, len_lst, g_sub, g_neg, g_add, g_lt, g_gt, g_le, g_ge, eq_int, ne_int, isN_int, isN_none, notN_int, notN_none, isN_tup, notN_tup, truD, DcOk]) (by rw [List.zipIdx_map_fst]; exact hn) (by simp; omega)]
  have hz : goal.length ≤ 1000000 := by omega
  simp [def0, cRet, cAndV, cNotV, cOp, cC, cV, cChain, cOrV, cOrT, cCall, cIfS, cNx, cBad, cSeq, cSet, cB, cAnd, cOr, cNot, cIf, cFz, cExpr, cMov, cYes, RE.bind, RE.toS, RS.then, evA, evP, Sm.Env.get, Sm.Env.put, Sm.Env.asg, getS, getM, startS, isCopy, lendC, backC, M.isHole, M.fz, M.view, Slot.cont, gN, gT, gsC, gsN, Sm.Env.wipe, Sm.Env.rest, wipeS, restS, cSl, asI, isLst, gApp, cMut, cPar, cPar3, cAsgG, LcOk, ForOk, RetOk, LcR, cLc, iSeq, itemsM, seqOf, gTupM, gLstM, valsOf, isi_int, isi_bool, isi_tup, isi_lst, len_tup, len_list, len_lst, g_sub, g_neg, g_add, g_lt, g_gt, g_le, g_ge, eq_int, ne_int, isN_int, isN_none, notN_int, notN_none, isN_tup, notN_tup, truD, cFor, iRng1D, int1_nat hz, rng0_map, len_tup]
  let P : Nat → Sm.Env → Prop := fun i e => ∃ j4 j5 j6 : Sm.Slot,
      e = ⟨[.own (vv (eLot lot)), .own (vv (eLot goal)), .own (.dct (kvOf lot.zipIdx)), .own (.lst (((List.range i).flatMap fun f => run lot f (goal.drop f) f (-1)).map ePr)), j4, j5, j6, .own .hole, .own .hole], [.val (eLot lot), .val (eLot goal)]⟩
  have step : ∀ i (hi : i < (List.range goal.length).length) e, P i e → ForOk (gN 4) (cSeq (cPar 5 6 (cV 4) (cOp (gU fun i => -i) [OpD.e (cC (M.val (PyData.int 1)))])) (whileD whC whB fuelW.1)) (nI (List.range goal.length)[i]) e (P (i + 1)) := by
    intro i hi e ⟨j4, j5, j6, he⟩
    subst he
    simp at hi
    have hr : (List.range goal.length)[i]'(by simpa using hi) = i := by simp
    rw [hr]
    have hacc : ∀ k, k ≤ goal.length → ((List.range k).flatMap fun f => run lot f (goal.drop f) f (-1)).length ≤ k * 100 := by
      intro k
      induction k with
      | zero => simp
      | succ k ih =>
        intro hk
        rw [List.range_succ, List.flatMap_append, List.length_append]
        have := ih (by omega)
        have h5 := run_length lot k (goal.drop k) k (-1)
        rw [List.length_drop] at h5
        rw [List.flatMap_singleton]
        omega
    have hacc := hacc i (by omega)
    obtain ⟨p', a', hw⟩ := while_run lot goal i (.own .hole) (.own .hole) [.val (eLot lot), .val (eLot goal)] (by omega) (goal.drop i) i (-1) ((List.range i).flatMap fun f => run lot f (goal.drop f) f (-1)) fuelW.1 rfl (by have := fuelW.2; rw [List.length_drop]; omega) (by rw [List.length_drop]; omega) (by omega)
    simp [def0, cRet, cAndV, cNotV, cOp, cC, cV, cChain, cOrV, cOrT, cCall, cIfS, cNx, cBad, cSeq, cSet, cB, cAnd, cOr, cNot, cIf, cFz, cExpr, cMov, cYes, RE.bind, RE.toS, RS.then, evA, evP, Sm.Env.get, Sm.Env.put, Sm.Env.asg, getS, getM, startS, isCopy, lendC, backC, M.isHole, M.fz, M.view, Slot.cont, gN, gT, gsC, gsN, Sm.Env.wipe, Sm.Env.rest, wipeS, restS, cSl, asI, isLst, gApp, cMut, cPar, cPar3, cAsgG, LcOk, ForOk, RetOk, LcR, cLc, iSeq, itemsM, seqOf, gTupM, gLstM, valsOf, isi_int, isi_bool, isi_tup, isi_lst, len_tup, len_list, len_lst, g_sub, g_neg, g_add, g_lt, g_gt, g_le, g_ge, eq_int, ne_int, isN_int, isN_none, notN_int, notN_none, isN_tup, notN_tup, truD, g_neg]
    simp only [stE, vv] at hw
    rw [hw]
    refine ⟨.own (.val (nI i)), .own (.val (nI p')), .own (.val (.int a')), ?_⟩
    rw [List.range_succ, List.flatMap_append]
    simp
  have h0 : P 0 ⟨[.own (vv (eLot lot)), .own (vv (eLot goal)), .own (.dct (kvOf lot.zipIdx)), .own (.lst []), .own .hole, .own .hole, .own .hole, .own .hole, .own .hole], [.val (eLot lot), .val (eLot goal)]⟩ := ⟨_, _, _, rfl⟩
  obtain ⟨e', h3, j4, j5, j6, h4⟩ := for_of P h0 step
  subst h4
  have h3' := h3
  simp only [vv, kvOf, whC, whB] at h3'
  rw [h3']
  simp [def0, cRet, cAndV, cNotV, cOp, cC, cV, cChain, cOrV, cOrT, cCall, cIfS, cNx, cBad, cSeq, cSet, cB, cAnd, cOr, cNot, cIf, cFz, cExpr, cMov, cYes, RE.bind, RE.toS, RS.then, evA, evP, Sm.Env.get, Sm.Env.put, Sm.Env.asg, getS, getM, startS, isCopy, lendC, backC, M.isHole, M.fz, M.view, Slot.cont, gN, gT, gsC, gsN, Sm.Env.wipe, Sm.Env.rest, wipeS, restS, cSl, asI, isLst, gApp, cMut, cPar, cPar3, cAsgG, LcOk, ForOk, RetOk, LcR, cLc, iSeq, itemsM, seqOf, gTupM, gLstM, valsOf, isi_int, isi_bool, isi_tup, isi_lst, len_tup, len_list, len_lst, g_sub, g_neg, g_add, g_lt, g_gt, g_le, g_ge, eq_int, ne_int, isN_int, isN_none, notN_int, notN_none, isN_tup, notN_tup, truD, standing]
end
end Wk

namespace Wk
noncomputable section
open PySem PySem.Spec Sm Mp
variable {C : Str → Addr}
theorem flat_map : ∀ l : List Nat, (l.map nI).all flatD = true
  | [] => rfl
  | b :: l => by
    rw [List.map_cons, List.all_cons, flat_map l]; rfl
theorem any_nat (b : Nat) : ∀ l : List Nat, ((l.map nI).any fun z => PyData.eqv z (nI b)) = decide (b ∈ l)
  | [] => by simp
  | c :: l => by
    rw [List.map_cons, List.any_cons, any_nat b l]
    have : PyData.eqv (nI c) (nI b) = decide (c = b) := by
      rw [eqv_dec (p := c = b) cl_int cl_int]
      simp
      omega
    rw [this]
    by_cases h : b ∈ l <;> by_cases h2 : c = b <;> simp [h, h2] <;> (try (intro z; exact h2 z.symm))
theorem in_nat (b : Nat) (l : List Nat) : gInU false [.val (nI b), .val (eLot l)] = some (.val (.bool (decide (b ∈ l)))) := by
  have h1 : inOk (nI b) (l.map nI) = true := by unfold inOk; rw [flat_map]; rfl
  have : gIn false [.val (nI b), .val (eLot l)] = some (.val (.bool (false ^^ ((l.map nI).any fun z => PyData.eqv z (nI b))))) := by
    simp only [gIn, seqOf]
    rw [h1]
  unfold gInU Sm.orM
  rw [this, any_nat]
  simp
def seg (lot : List Nat) (f p : Nat) : List Nat := (lot.drop f).take (p - f)
theorem sl_seg (lot : List Nat) {f p : Nat} (h1 : f ≤ p) (h2 : p ≤ lot.length) : gSl (some (f : Int)) (some (p : Int)) [.val (eLot lot)] = some (.val (eLot (seg lot f p))) := by
  rw [sl_nat h1 (by simpa using h2)]
  unfold seg
  rw [← List.map_drop, ← List.map_take]
theorem mem_run (lot : List Nat) (first : Nat) : ∀ (r : List Nat) (p : Nat) (a : Int) (q : Nat × Nat), q ∈ run lot first r p a → q.1 = first ∧ p < q.2 ∧ q.2 ≤ p + r.length
  | [], _, _, _, h => by cases h
  | b :: r, p, a, q, h => by
    unfold run at h
    split at h
    · rcases List.mem_cons.mp h with e | h
      · subst e; simp
      · have := mem_run lot first r (p + 1) _ q h
        simp; omega
    · cases h
theorem mem_standing {lot goal : List Nat} {q : Nat × Nat} (h : q ∈ standing lot goal) : q.1 < q.2 ∧ q.2 ≤ goal.length := by
  obtain ⟨f, hf, hq⟩ := List.mem_flatMap.mp h
  have := mem_run _ _ _ _ _ _ hq
  simp at hf this
  omega
def hold (ps : List (Option Int)) (old lot : List Nat) : List (Nat × Nat) := (standing old lot).filter fun q => (fixedIn ps lot).all fun b => decide (b ∈ seg lot q.1 q.2)
theorem ix_lots (ls : List (List Nat)) {i : Nat} (h : i < ls.length) : gIx [.val (eLots ls), .val (nI i)] = some (.val (eLot ls[i])) := by
  rw [ix_nat (by simpa using h)]
  simp
theorem boolsOf_map {α : Type} (f : α → Bool) : ∀ l : List α, boolsOf (l.map fun b => PyData.bool (f b)) = some (l.map f)
  | [] => rfl
  | b :: l => by simp [boolsOf, boolsOf_map f l]
theorem e_holding (ps ls) (gl : List (List Nat)) (n : Nat) (h1 : n < gl.length) (h2 : n < ls.length) (hb : ∀ b ∈ gl[n], b < ps.length) (hz : gl[n].length ≤ 100) (hn : ls[n].Nodup) (hz2 : ls[n].length ≤ 1000) (hzs : (standing ls[n] gl[n]).length ≤ 100000) :
    d_holding C [.val (eSh ps ls), .val (nI n), .val (eLots gl)] = .ok (.val (ePrs (hold ps ls[n] gl[n]))) [.val (eSh ps ls), .val (nI n), .val (eLots gl)] := by
  unfold d_holding b_holding
  simp [def0, cRet, cAndV, cNotV, cOp, cC, cV, cChain, cOrV, cOrT, cCall, cIfS, cNx, cBad, cSeq, cSet, cB, cAnd, cOr, cNot, cIf, cFz, cExpr, cMov, cYes, RE.bind, RE.toS, RS.then, evA, evP, Sm.Env.get, Sm.Env.put, Sm.Env.asg, getS, getM, startS, isCopy, lendC, backC, M.isHole, M.fz, M.view, Slot.cont, gN, gT, gsC, gsN, Sm.Env.wipe, Sm.Env.rest, wipeS, restS, cSl, asI, isLst, gApp, cMut, cPar, cPar3, cAsgG, LcOk, ForOk, RetOk, LcR, cLc, iSeq, itemsM, seqOf, gTupM, gLstM, valsOf, isi_int, isi_bool, isi_tup, isi_lst, len_tup, len_list, len_lst, g_sub, g_neg, g_add, g_lt, g_gt, g_le, g_ge, eq_int, ne_int, isN_int, isN_none, notN_int, notN_none, isN_tup, notN_tup, truD, ix_lots gl h1, e_fixed_in ps ls gl[n] hb (by omega), cFor, ix_sh1, ix_lots ls h2, e_standing ls[n] gl[n] hn hz2 hz]
  generalize hF : forD _ _ _ _ = F
  obtain ⟨e', rfl, j6, j7, j8, h4⟩ := for_at hF (fun i e => ∃ j6 j7 j8 : Sm.Slot, e = ⟨[.own (vv (eSh ps ls)), .own (vv (nI n)), .own (vv (eLots gl)), .own (vv (eLot gl[n])), .own (vv (.list ((fixedIn ps gl[n]).map nI))), .own (.lst ((((standing ls[n] gl[n]).take i).filter fun q => (fixedIn ps gl[n]).all fun b => decide (b ∈ seg gl[n] q.1 q.2)).map ePr)), j6, j7, j8], [vv (eSh ps ls), vv (nI n), vv (eLots gl)]⟩)
    ⟨_, _, _, rfl⟩ (fun i hi e ⟨j6, j7, j8, he⟩ => by
      subst he
      obtain ⟨q1, q2⟩ := mem_standing (List.getElem_mem hi)
      have hsl := sl_seg gl[n] (f := (standing ls[n] gl[n])[i].1) (p := (standing ls[n] gl[n])[i].2) (by omega) q2
      have hlen : (((standing ls[n] gl[n]).take i).filter fun q => (fixedIn ps gl[n]).all fun b => decide (b ∈ seg gl[n] q.1 q.2)).length < 16777216 := by
        refine Nat.lt_of_le_of_lt (List.length_filter_le _ _) ?_
        rw [List.length_take]; omega
      rw [List.take_succ_eq_append_getElem hi]
      generalize hq : (standing ls[n] gl[n])[i] = q at *
      simp [def0, cRet, cAndV, cNotV, cOp, cC, cV, cChain, cOrV, cOrT, cCall, cIfS, cNx, cBad, cSeq, cSet, cB, cAnd, cOr, cNot, cIf, cFz, cExpr, cMov, cYes, RE.bind, RE.toS, RS.then, evA, evP, Sm.Env.get, Sm.Env.put, Sm.Env.asg, getS, getM, startS, isCopy, lendC, backC, M.isHole, M.fz, M.view, Slot.cont, gN, gT, gsC, gsN, Sm.Env.wipe, Sm.Env.rest, wipeS, restS, cSl, asI, isLst, gApp, cMut, cPar, cPar3, cAsgG, LcOk, ForOk, RetOk, LcR, cLc, iSeq, itemsM, seqOf, gTupM, gLstM, valsOf, isi_int, isi_bool, isi_tup, isi_lst, len_tup, len_list, len_lst, g_sub, g_neg, g_add, g_lt, g_gt, g_le, g_ge, eq_int, ne_int, isN_int, isN_none, notN_int, notN_none, isN_tup, notN_tup, truD]
      rw [lc_ofY (fun b => .bool (decide (b ∈ seg gl[n] q.1 q.2))) (fun b hb => by simp [def0, cRet, cAndV, cNotV, cOp, cC, cV, cChain, cOrV, cOrT, cCall, cIfS, cNx, cBad, cSeq, cSet, cB, cAnd, cOr, cNot, cIf, cFz, cExpr, cMov, cYes, RE.bind, RE.toS, RS.then, evA, evP, Sm.Env.get, Sm.Env.put, Sm.Env.asg, getS, getM, startS, isCopy, lendC, backC, M.isHole, M.fz, M.view, Slot.cont, gN, gT, gsC, gsN, Sm.Env.wipe, Sm.Env.rest, wipeS, restS, cSl, asI, isLst, gApp, cMut, cPar, cPar3, cAsgG, LcOk, ForOk, RetOk, LcR, cLc, iSeq, itemsM, seqOf, gTupM, gLstM, valsOf, isi_int, isi_bool, isi_tup, isi_lst, len_tup, len_list, len_lst, g_sub, g_neg, g_add, g_lt, g_gt, g_le, g_ge, eq_int, ne_int, isN_int, isN_none, notN_int, notN_none, isN_tup, notN_tup, truD, hsl, in_nat]) (by have := List.length_filter_le (fun b => decide (pr ps b = none)) gl[n]; unfold fixedIn; omega)]
      simp [def0, cRet, cAndV, cNotV, cOp, cC, cV, cChain, cOrV, cOrT, cCall, cIfS, cNx, cBad, cSeq, cSet, cB, cAnd, cOr, cNot, cIf, cFz, cExpr, cMov, cYes, RE.bind, RE.toS, RS.then, evA, evP, Sm.Env.get, Sm.Env.put, Sm.Env.asg, getS, getM, startS, isCopy, lendC, backC, M.isHole, M.fz, M.view, Slot.cont, gN, gT, gsC, gsN, Sm.Env.wipe, Sm.Env.rest, wipeS, restS, cSl, asI, isLst, gApp, cMut, cPar, cPar3, cAsgG, LcOk, ForOk, RetOk, LcR, cLc, iSeq, itemsM, seqOf, gTupM, gLstM, valsOf, isi_int, isi_bool, isi_tup, isi_lst, len_tup, len_list, len_lst, g_sub, g_neg, g_add, g_lt, g_gt, g_le, g_ge, eq_int, ne_int, isN_int, isN_none, notN_int, notN_none, isN_tup, notN_tup, truD, gAll, lstOf, boolsOf_map]
      cases hc : (fixedIn ps gl[n]).all fun b => decide (b ∈ seg gl[n] q.1 q.2) with
      | true => simp [hc, hlen]
      | false => simp [hc, hlen])
  subst h4
  simp [def0, cRet, cAndV, cNotV, cOp, cC, cV, cChain, cOrV, cOrT, cCall, cIfS, cNx, cBad, cSeq, cSet, cB, cAnd, cOr, cNot, cIf, cFz, cExpr, cMov, cYes, RE.bind, RE.toS, RS.then, evA, evP, Sm.Env.get, Sm.Env.put, Sm.Env.asg, getS, getM, startS, isCopy, lendC, backC, M.isHole, M.fz, M.view, Slot.cont, gN, gT, gsC, gsN, Sm.Env.wipe, Sm.Env.rest, wipeS, restS, cSl, asI, isLst, gApp, cMut, cPar, cPar3, cAsgG, LcOk, ForOk, RetOk, LcR, cLc, iSeq, itemsM, seqOf, gTupM, gLstM, valsOf, isi_int, isi_bool, isi_tup, isi_lst, len_tup, len_list, len_lst, g_sub, g_neg, g_add, g_lt, g_gt, g_le, g_ge, eq_int, ne_int, isN_int, isN_none, notN_int, notN_none, isN_tup, notN_tup, truD, hold]
/-! ### the best, the longest -/
def best (ps : List (Option Int)) (old lot : List Nat) : List (Nat × Nat) :=
  (hold ps old lot).filter fun q => decide (price ps (seg lot q.1 q.2) = maxI ((hold ps old lot).map fun q => price ps (seg lot q.1 q.2)))
abbrev eSc (ps : List (Option Int)) (lot : List Nat) (q : Nat × Nat) : PyData := .tuple [.int (price ps (seg lot q.1 q.2)), ePr q]
theorem ne_nilL {l : List PyData} (h : cl 60 (.list l) = true) : gNe [.val (.list l), .lst []] = some (.val (.bool (!decide (l = [])))) := by
  rw [gNe_cl (d := .list l) (e := .list []) rfl rfl h rfl, eqv_dec (p := l = []) h rfl (by simp)]
theorem eq_nilL {l : List PyData} (h : cl 60 (.list l) = true) : gEq [.val (.list l), .lst []] = some (.val (.bool (decide (l = [])))) := by
  rw [gEq_cl (d := .list l) (e := .list []) rfl rfl h rfl, eqv_dec (p := l = []) h rfl (by simp)]
theorem cl_list {α : Type} (enc : α → PyData) (n : Nat) (l : List α) (h : ∀ a, cl n (enc a) = true) : cl (n + 1) (.list (l.map enc)) = true := by
  rw [cl_lst, List.all_map]; exact List.all_eq_true.mpr fun a _ => h a
theorem cl_tupl {α : Type} (enc : α → PyData) (n : Nat) (l : List α) (h : ∀ a, cl n (enc a) = true) : cl (n + 1) (.tuple (l.map enc)) = true := by
  rw [cl_tup, List.all_map]; exact List.all_eq_true.mpr fun a _ => h a
theorem cl_pr (n : Nat) (q : Nat × Nat) : cl (n + 1) (ePr q) = true := by rw [cl_tup]; simp [cl_int]
theorem cl_sc (ps lot) (n : Nat) (q : Nat × Nat) : cl (n + 2) (eSc ps lot q) = true := by rw [cl_tup]; simp [cl_int, cl_pr]
theorem hold_mem {ps : List (Option Int)} {old lot : List Nat} {q : Nat × Nat} (h : q ∈ hold ps old lot) : q.1 < q.2 ∧ q.2 ≤ lot.length := mem_standing (List.mem_filter.mp h).1
/-- what is asked of a lot's walk -/
structure LotOk (ps : List (Option Int)) (old lot : List Nat) : Prop where
  b : ∀ x ∈ lot, x < ps.length
  z : lot.length ≤ 100
  n : old.Nodup
  zo : old.length ≤ 1000
theorem standing_length (old lot : List Nat) (h : lot.length ≤ 100) : (standing old lot).length ≤ 10000 := by
  have : ∀ k, k ≤ lot.length → ((List.range k).flatMap fun f => run old f (lot.drop f) f (-1)).length ≤ k * 100 := by
    intro k
    induction k with
    | zero => simp
    | succ k ih =>
      intro hk
      rw [List.range_succ, List.flatMap_append, List.length_append]
      have := ih (by omega)
      have h5 := run_length old k (lot.drop k) k (-1)
      rw [List.length_drop] at h5
      rw [List.flatMap_singleton]
      omega
  have := this lot.length (Nat.le_refl _)
  unfold standing
  omega
theorem hold_length (ps : List (Option Int)) (old lot : List Nat) (h : lot.length ≤ 100) : (hold ps old lot).length ≤ 10000 := Nat.le_trans (List.length_filter_le _ _) (standing_length old lot h)
theorem seg_mem {lot : List Nat} {f p b : Nat} (h : b ∈ seg lot f p) : b ∈ lot := List.mem_of_mem_drop (List.mem_of_mem_take h)
theorem seg_len {lot : List Nat} {f p : Nat} : (seg lot f p).length ≤ lot.length := by
  unfold seg; rw [List.length_take, List.length_drop]; omega
theorem e_hold (ps ls) (gl : List (List Nat)) (n : Nat) (h1 : n < gl.length) (h2 : n < ls.length) (ok : LotOk ps ls[n] gl[n]) :
    d_holding C [.val (eSh ps ls), .val (nI n), .val (eLots gl)] = .ok (.val (ePrs (hold ps ls[n] gl[n]))) [.val (eSh ps ls), .val (nI n), .val (eLots gl)] :=
  e_holding ps ls gl n h1 h2 ok.b ok.z ok.n ok.zo (by have := standing_length ls[n] gl[n] ok.z; omega)
theorem e_greatest (ps ls) (gl : List (List Nat)) (n : Nat) (h1 : n < gl.length) (h2 : n < ls.length) (ok : LotOk ps ls[n] gl[n]) :
    d_greatest C [.val (eSh ps ls), .val (nI n), .val (eLots gl)] = .ok (.val (ePrs (best ps ls[n] gl[n]))) [.val (eSh ps ls), .val (nI n), .val (eLots gl)] := by
  have hz := hold_length ps ls[n] gl[n] ok.z
  unfold d_greatest b_greatest
  simp [def0, cRet, cAndV, cNotV, cOp, cC, cV, cChain, cOrV, cOrT, cCall, cIfS, cNx, cBad, cSeq, cSet, cB, cAnd, cOr, cNot, cIf, cFz, cExpr, cMov, cYes, RE.bind, RE.toS, RS.then, evA, evP, Sm.Env.get, Sm.Env.put, Sm.Env.asg, getS, getM, startS, isCopy, lendC, backC, M.isHole, M.fz, M.view, Slot.cont, gN, gT, gsC, gsN, Sm.Env.wipe, Sm.Env.rest, wipeS, restS, cSl, asI, isLst, gApp, cMut, cPar, cPar3, cAsgG, LcOk, ForOk, RetOk, LcR, cLc, iSeq, itemsM, seqOf, gTupM, gLstM, valsOf, isi_int, isi_bool, isi_tup, isi_lst, len_tup, len_list, len_lst, g_sub, g_neg, g_add, g_lt, g_gt, g_le, g_ge, eq_int, ne_int, isN_int, isN_none, notN_int, notN_none, isN_tup, notN_tup, truD, ix_lots gl h1, e_hold ps ls gl n h1 h2 ok]
  rw [lc_ofY (eSc ps gl[n]) (fun q hq => by
    have hm := hold_mem hq
    have hp := e_price_in (C := C) ps ls (seg gl[n] q.1 q.2) (fun b hb => ok.b b (seg_mem hb)) (by have := @seg_len gl[n] q.1 q.2; have := ok.z; omega)
    simp [def0, cRet, cAndV, cNotV, cOp, cC, cV, cChain, cOrV, cOrT, cCall, cIfS, cNx, cBad, cSeq, cSet, cB, cAnd, cOr, cNot, cIf, cFz, cExpr, cMov, cYes, RE.bind, RE.toS, RS.then, evA, evP, Sm.Env.get, Sm.Env.put, Sm.Env.asg, getS, getM, startS, isCopy, lendC, backC, M.isHole, M.fz, M.view, Slot.cont, gN, gT, gsC, gsN, Sm.Env.wipe, Sm.Env.rest, wipeS, restS, cSl, asI, isLst, gApp, cMut, cPar, cPar3, cAsgG, LcOk, ForOk, RetOk, LcR, cLc, iSeq, itemsM, seqOf, gTupM, gLstM, valsOf, isi_int, isi_bool, isi_tup, isi_lst, len_tup, len_list, len_lst, g_sub, g_neg, g_add, g_lt, g_gt, g_le, g_ge, eq_int, ne_int, isN_int, isN_none, notN_int, notN_none, isN_tup, notN_tup, truD, sl_seg gl[n] (Nat.le_of_lt hm.1) hm.2, hp]) (by omega)]
  have hc : cl 60 (.list ((hold ps ls[n] gl[n]).map (eSc ps gl[n]))) = true := cl_list _ 59 _ fun q => cl_sc ps gl[n] 57 q
  simp [def0, cRet, cAndV, cNotV, cOp, cC, cV, cChain, cOrV, cOrT, cCall, cIfS, cNx, cBad, cSeq, cSet, cB, cAnd, cOr, cNot, cIf, cFz, cExpr, cMov, cYes, RE.bind, RE.toS, RS.then, evA, evP, Sm.Env.get, Sm.Env.put, Sm.Env.asg, getS, getM, startS, isCopy, lendC, backC, M.isHole, M.fz, M.view, Slot.cont, gN, gT, gsC, gsN, Sm.Env.wipe, Sm.Env.rest, wipeS, restS, cSl, asI, isLst, gApp, cMut, cPar, cPar3, cAsgG, LcOk, ForOk, RetOk, LcR, cLc, iSeq, itemsM, seqOf, gTupM, gLstM, valsOf, isi_int, isi_bool, isi_tup, isi_lst, len_tup, len_list, len_lst, g_sub, g_neg, g_add, g_lt, g_gt, g_le, g_ge, eq_int, ne_int, isN_int, isN_none, notN_int, notN_none, isN_tup, notN_tup, truD, ne_nilL hc]
  by_cases he : hold ps ls[n] gl[n] = []
  · simp [def0, cRet, cAndV, cNotV, cOp, cC, cV, cChain, cOrV, cOrT, cCall, cIfS, cNx, cBad, cSeq, cSet, cB, cAnd, cOr, cNot, cIf, cFz, cExpr, cMov, cYes, RE.bind, RE.toS, RS.then, evA, evP, Sm.Env.get, Sm.Env.put, Sm.Env.asg, getS, getM, startS, isCopy, lendC, backC, M.isHole, M.fz, M.view, Slot.cont, gN, gT, gsC, gsN, Sm.Env.wipe, Sm.Env.rest, wipeS, restS, cSl, asI, isLst, gApp, cMut, cPar, cPar3, cAsgG, LcOk, ForOk, RetOk, LcR, cLc, iSeq, itemsM, seqOf, gTupM, gLstM, valsOf, isi_int, isi_bool, isi_tup, isi_lst, len_tup, len_list, len_lst, g_sub, g_neg, g_add, g_lt, g_gt, g_le, g_ge, eq_int, ne_int, isN_int, isN_none, notN_int, notN_none, isN_tup, notN_tup, truD, he, lcD, best]
  · simp [def0, cRet, cAndV, cNotV, cOp, cC, cV, cChain, cOrV, cOrT, cCall, cIfS, cNx, cBad, cSeq, cSet, cB, cAnd, cOr, cNot, cIf, cFz, cExpr, cMov, cYes, RE.bind, RE.toS, RS.then, evA, evP, Sm.Env.get, Sm.Env.put, Sm.Env.asg, getS, getM, startS, isCopy, lendC, backC, M.isHole, M.fz, M.view, Slot.cont, gN, gT, gsC, gsN, Sm.Env.wipe, Sm.Env.rest, wipeS, restS, cSl, asI, isLst, gApp, cMut, cPar, cPar3, cAsgG, LcOk, ForOk, RetOk, LcR, cLc, iSeq, itemsM, seqOf, gTupM, gLstM, valsOf, isi_int, isi_bool, isi_tup, isi_lst, len_tup, len_list, len_lst, g_sub, g_neg, g_add, g_lt, g_gt, g_le, g_ge, eq_int, ne_int, isN_int, isN_none, notN_int, notN_none, isN_tup, notN_tup, truD, he]
    rw [lc_ofY (fun q => .int (price ps (seg gl[n] q.1 q.2))) (fun q hq => by simp [def0, cRet, cAndV, cNotV, cOp, cC, cV, cChain, cOrV, cOrT, cCall, cIfS, cNx, cBad, cSeq, cSet, cB, cAnd, cOr, cNot, cIf, cFz, cExpr, cMov, cYes, RE.bind, RE.toS, RS.then, evA, evP, Sm.Env.get, Sm.Env.put, Sm.Env.asg, getS, getM, startS, isCopy, lendC, backC, M.isHole, M.fz, M.view, Slot.cont, gN, gT, gsC, gsN, Sm.Env.wipe, Sm.Env.rest, wipeS, restS, cSl, asI, isLst, gApp, cMut, cPar, cPar3, cAsgG, LcOk, ForOk, RetOk, LcR, cLc, iSeq, itemsM, seqOf, gTupM, gLstM, valsOf, isi_int, isi_bool, isi_tup, isi_lst, len_tup, len_list, len_lst, g_sub, g_neg, g_add, g_lt, g_gt, g_le, g_ge, eq_int, ne_int, isN_int, isN_none, notN_int, notN_none, isN_tup, notN_tup, truD]) (by omega)]
    simp [def0, cRet, cAndV, cNotV, cOp, cC, cV, cChain, cOrV, cOrT, cCall, cIfS, cNx, cBad, cSeq, cSet, cB, cAnd, cOr, cNot, cIf, cFz, cExpr, cMov, cYes, RE.bind, RE.toS, RS.then, evA, evP, Sm.Env.get, Sm.Env.put, Sm.Env.asg, getS, getM, startS, isCopy, lendC, backC, M.isHole, M.fz, M.view, Slot.cont, gN, gT, gsC, gsN, Sm.Env.wipe, Sm.Env.rest, wipeS, restS, cSl, asI, isLst, gApp, cMut, cPar, cPar3, cAsgG, LcOk, ForOk, RetOk, LcR, cLc, iSeq, itemsM, seqOf, gTupM, gLstM, valsOf, isi_int, isi_bool, isi_tup, isi_lst, len_tup, len_list, len_lst, g_sub, g_neg, g_add, g_lt, g_gt, g_le, g_ge, eq_int, ne_int, isN_int, isN_none, notN_int, notN_none, isN_tup, notN_tup, truD, max_map (fun q : Nat × Nat => price ps (seg gl[n] q.1 q.2)) he]
    rw [lc_of (fun q => decide (price ps (seg gl[n] q.1 q.2) = maxI ((hold ps ls[n] gl[n]).map fun q => price ps (seg gl[n] q.1 q.2)))) ePr (fun q hq => by
      by_cases hq2 : price ps (seg gl[n] q.1 q.2) = maxI ((hold ps ls[n] gl[n]).map fun q => price ps (seg gl[n] q.1 q.2)) <;> simp [def0, cRet, cAndV, cNotV, cOp, cC, cV, cChain, cOrV, cOrT, cCall, cIfS, cNx, cBad, cSeq, cSet, cB, cAnd, cOr, cNot, cIf, cFz, cExpr, cMov, cYes, RE.bind, RE.toS, RS.then, evA, evP, Sm.Env.get, Sm.Env.put, Sm.Env.asg, getS, getM, startS, isCopy, lendC, backC, M.isHole, M.fz, M.view, Slot.cont, gN, gT, gsC, gsN, Sm.Env.wipe, Sm.Env.rest, wipeS, restS, cSl, asI, isLst, gApp, cMut, cPar, cPar3, cAsgG, LcOk, ForOk, RetOk, LcR, cLc, iSeq, itemsM, seqOf, gTupM, gLstM, valsOf, isi_int, isi_bool, isi_tup, isi_lst, len_tup, len_list, len_lst, g_sub, g_neg, g_add, g_lt, g_gt, g_le, g_ge, eq_int, ne_int, isN_int, isN_none, notN_int, notN_none, isN_tup, notN_tup, truD, hq2]) (by omega)]
    simp [def0, cRet, cAndV, cNotV, cOp, cC, cV, cChain, cOrV, cOrT, cCall, cIfS, cNx, cBad, cSeq, cSet, cB, cAnd, cOr, cNot, cIf, cFz, cExpr, cMov, cYes, RE.bind, RE.toS, RS.then, evA, evP, Sm.Env.get, Sm.Env.put, Sm.Env.asg, getS, getM, startS, isCopy, lendC, backC, M.isHole, M.fz, M.view, Slot.cont, gN, gT, gsC, gsN, Sm.Env.wipe, Sm.Env.rest, wipeS, restS, cSl, asI, isLst, gApp, cMut, cPar, cPar3, cAsgG, LcOk, ForOk, RetOk, LcR, cLc, iSeq, itemsM, seqOf, gTupM, gLstM, valsOf, isi_int, isi_bool, isi_tup, isi_lst, len_tup, len_list, len_lst, g_sub, g_neg, g_add, g_lt, g_gt, g_le, g_ge, eq_int, ne_int, isN_int, isN_none, notN_int, notN_none, isN_tup, notN_tup, truD, best]
def long (ps : List (Option Int)) (old lot : List Nat) : Int :=
  if hold ps old lot = [] then 0 else maxI ((hold ps old lot).map fun q => (q.2 : Int) - (q.1 : Int)) - ((fixedIn ps lot).length : Int)
theorem fixed_len (ps lot) : (fixedIn ps lot).length ≤ lot.length := List.length_filter_le _ _
theorem e_longest (ps ls) (gl : List (List Nat)) (n : Nat) (h1 : n < gl.length) (h2 : n < ls.length) (ok : LotOk ps ls[n] gl[n]) :
    d_longest C [.val (eSh ps ls), .val (nI n), .val (eLots gl)] = .ok (.val (.int (long ps ls[n] gl[n]))) [.val (eSh ps ls), .val (nI n), .val (eLots gl)] := by
  have hz := hold_length ps ls[n] gl[n] ok.z
  unfold d_longest b_longest
  simp [def0, cRet, cAndV, cNotV, cOp, cC, cV, cChain, cOrV, cOrT, cCall, cIfS, cNx, cBad, cSeq, cSet, cB, cAnd, cOr, cNot, cIf, cFz, cExpr, cMov, cYes, RE.bind, RE.toS, RS.then, evA, evP, Sm.Env.get, Sm.Env.put, Sm.Env.asg, getS, getM, startS, isCopy, lendC, backC, M.isHole, M.fz, M.view, Slot.cont, gN, gT, gsC, gsN, Sm.Env.wipe, Sm.Env.rest, wipeS, restS, cSl, asI, isLst, gApp, cMut, cPar, cPar3, cAsgG, LcOk, ForOk, RetOk, LcR, cLc, iSeq, itemsM, seqOf, gTupM, gLstM, valsOf, isi_int, isi_bool, isi_tup, isi_lst, len_tup, len_list, len_lst, g_sub, g_neg, g_add, g_lt, g_gt, g_le, g_ge, eq_int, ne_int, isN_int, isN_none, notN_int, notN_none, isN_tup, notN_tup, truD, ix_lots gl h1, e_hold ps ls gl n h1 h2 ok]
  rw [lc_ofY (fun q => .int ((q.2 : Int) - (q.1 : Int))) (fun q hq => by simp [def0, cRet, cAndV, cNotV, cOp, cC, cV, cChain, cOrV, cOrT, cCall, cIfS, cNx, cBad, cSeq, cSet, cB, cAnd, cOr, cNot, cIf, cFz, cExpr, cMov, cYes, RE.bind, RE.toS, RS.then, evA, evP, Sm.Env.get, Sm.Env.put, Sm.Env.asg, getS, getM, startS, isCopy, lendC, backC, M.isHole, M.fz, M.view, Slot.cont, gN, gT, gsC, gsN, Sm.Env.wipe, Sm.Env.rest, wipeS, restS, cSl, asI, isLst, gApp, cMut, cPar, cPar3, cAsgG, LcOk, ForOk, RetOk, LcR, cLc, iSeq, itemsM, seqOf, gTupM, gLstM, valsOf, isi_int, isi_bool, isi_tup, isi_lst, len_tup, len_list, len_lst, g_sub, g_neg, g_add, g_lt, g_gt, g_le, g_ge, eq_int, ne_int, isN_int, isN_none, notN_int, notN_none, isN_tup, notN_tup, truD]) (by omega)]
  have hc : cl 60 (.list ((hold ps ls[n] gl[n]).map fun q => .int ((q.2 : Int) - (q.1 : Int)))) = true := cl_list (fun q : Nat × Nat => .int ((q.2 : Int) - (q.1 : Int))) 59 _ fun q => cl_int
  simp [def0, cRet, cAndV, cNotV, cOp, cC, cV, cChain, cOrV, cOrT, cCall, cIfS, cNx, cBad, cSeq, cSet, cB, cAnd, cOr, cNot, cIf, cFz, cExpr, cMov, cYes, RE.bind, RE.toS, RS.then, evA, evP, Sm.Env.get, Sm.Env.put, Sm.Env.asg, getS, getM, startS, isCopy, lendC, backC, M.isHole, M.fz, M.view, Slot.cont, gN, gT, gsC, gsN, Sm.Env.wipe, Sm.Env.rest, wipeS, restS, cSl, asI, isLst, gApp, cMut, cPar, cPar3, cAsgG, LcOk, ForOk, RetOk, LcR, cLc, iSeq, itemsM, seqOf, gTupM, gLstM, valsOf, isi_int, isi_bool, isi_tup, isi_lst, len_tup, len_list, len_lst, g_sub, g_neg, g_add, g_lt, g_gt, g_le, g_ge, eq_int, ne_int, isN_int, isN_none, notN_int, notN_none, isN_tup, notN_tup, truD, ne_nilL hc]
  by_cases he : hold ps ls[n] gl[n] = []
  · simp [def0, cRet, cAndV, cNotV, cOp, cC, cV, cChain, cOrV, cOrT, cCall, cIfS, cNx, cBad, cSeq, cSet, cB, cAnd, cOr, cNot, cIf, cFz, cExpr, cMov, cYes, RE.bind, RE.toS, RS.then, evA, evP, Sm.Env.get, Sm.Env.put, Sm.Env.asg, getS, getM, startS, isCopy, lendC, backC, M.isHole, M.fz, M.view, Slot.cont, gN, gT, gsC, gsN, Sm.Env.wipe, Sm.Env.rest, wipeS, restS, cSl, asI, isLst, gApp, cMut, cPar, cPar3, cAsgG, LcOk, ForOk, RetOk, LcR, cLc, iSeq, itemsM, seqOf, gTupM, gLstM, valsOf, isi_int, isi_bool, isi_tup, isi_lst, len_tup, len_list, len_lst, g_sub, g_neg, g_add, g_lt, g_gt, g_le, g_ge, eq_int, ne_int, isN_int, isN_none, notN_int, notN_none, isN_tup, notN_tup, truD, he, long]
  · simp [def0, cRet, cAndV, cNotV, cOp, cC, cV, cChain, cOrV, cOrT, cCall, cIfS, cNx, cBad, cSeq, cSet, cB, cAnd, cOr, cNot, cIf, cFz, cExpr, cMov, cYes, RE.bind, RE.toS, RS.then, evA, evP, Sm.Env.get, Sm.Env.put, Sm.Env.asg, getS, getM, startS, isCopy, lendC, backC, M.isHole, M.fz, M.view, Slot.cont, gN, gT, gsC, gsN, Sm.Env.wipe, Sm.Env.rest, wipeS, restS, cSl, asI, isLst, gApp, cMut, cPar, cPar3, cAsgG, LcOk, ForOk, RetOk, LcR, cLc, iSeq, itemsM, seqOf, gTupM, gLstM, valsOf, isi_int, isi_bool, isi_tup, isi_lst, len_tup, len_list, len_lst, g_sub, g_neg, g_add, g_lt, g_gt, g_le, g_ge, eq_int, ne_int, isN_int, isN_none, notN_int, notN_none, isN_tup, notN_tup, truD, he, max_mapL (fun q : Nat × Nat => (q.2 : Int) - (q.1 : Int)) he, e_fixed_in ps ls gl[n] ok.b (by have := ok.z; omega), long]
theorem ix_0M {a : PyData} {r : List PyData} : gIx [.lst (a :: r), .val (.int 0)] = some (.val a) := ix_natM (ds := a :: r) (i := 0) (by simp)
theorem ix_0L {a : PyData} {r : List PyData} : gIx [.val (.list (a :: r)), .val (.int 0)] = some (.val a) := ix_natL (ds := a :: r) (i := 0) (by simp)
/-! ### where a book lies -/
def whereIn (ls : List (List Nat)) (b : Nat) : Nat := ls.findIdx fun l => decide (b ∈ l)
theorem where_head (b : Nat) : ∀ (ls : List (List Nat)) (k : Nat), (∃ l ∈ ls, b ∈ l) → ∃ r, ((ls.zipIdx k).filter fun p => decide (b ∈ p.1)).map (fun p => nI p.2) = nI (k + whereIn ls b) :: r
  | [], _, h => by obtain ⟨l, hl, _⟩ := h; cases hl
  | l :: ls, k, h => by
    by_cases hb : b ∈ l
    · refine ⟨((ls.zipIdx (k + 1)).filter fun p => decide (b ∈ p.1)).map (fun p => nI p.2), ?_⟩
      simp [List.zipIdx_cons, hb, whereIn, List.findIdx_cons]
    · obtain ⟨r, hr⟩ := where_head b ls (k + 1) (by
        obtain ⟨l', hl', hb'⟩ := h
        rcases List.mem_cons.mp hl' with e | e
        · subst e; exact absurd hb' hb
        · exact ⟨l', e, hb'⟩)
      refine ⟨r, ?_⟩
      rw [List.zipIdx_cons, List.filter_cons_of_neg (by simpa using hb), hr]
      simp [whereIn, List.findIdx_cons, hb]
      omega
theorem e_lot_of (ls : List (List Nat)) (b : Nat) (h : ∃ l ∈ ls, b ∈ l) (hz : ls.length ≤ 1000) : d_lot_of C [.val (eLots ls), .val (nI b)] = .ok (.val (nI (whereIn ls b))) [.val (eLots ls), .val (nI b)] := by
  unfold d_lot_of b_lot_of
  simp [def0, cRet, cAndV, cNotV, cOp, cC, cV, cChain, cOrV, cOrT, cCall, cIfS, cNx, cBad, cSeq, cSet, cB, cAnd, cOr, cNot, cIf, cFz, cExpr, cMov, cYes, RE.bind, RE.toS, RS.then, evA, evP, Sm.Env.get, Sm.Env.put, Sm.Env.asg, getS, getM, startS, isCopy, lendC, backC, M.isHole, M.fz, M.view, Slot.cont, gN, gT, gsC, gsN, Sm.Env.wipe, Sm.Env.rest, wipeS, restS, cSl, asI, isLst, gApp, cMut, cPar, cPar3, cAsgG, LcOk, ForOk, RetOk, LcR, cLc, iSeq, itemsM, seqOf, gTupM, gLstM, valsOf, isi_int, isi_bool, isi_tup, isi_lst, len_tup, len_list, len_lst, g_sub, g_neg, g_add, g_lt, g_gt, g_le, g_ge, eq_int, ne_int, isN_int, isN_none, notN_int, notN_none, isN_tup, notN_tup, truD, enum_map]
  rw [lc_of (fun p : List Nat × Nat => decide (b ∈ p.1)) (fun p => nI p.2) (fun p hp => by
    by_cases hb : b ∈ p.1 <;> simp [def0, cRet, cAndV, cNotV, cOp, cC, cV, cChain, cOrV, cOrT, cCall, cIfS, cNx, cBad, cSeq, cSet, cB, cAnd, cOr, cNot, cIf, cFz, cExpr, cMov, cYes, RE.bind, RE.toS, RS.then, evA, evP, Sm.Env.get, Sm.Env.put, Sm.Env.asg, getS, getM, startS, isCopy, lendC, backC, M.isHole, M.fz, M.view, Slot.cont, gN, gT, gsC, gsN, Sm.Env.wipe, Sm.Env.rest, wipeS, restS, cSl, asI, isLst, gApp, cMut, cPar, cPar3, cAsgG, LcOk, ForOk, RetOk, LcR, cLc, iSeq, itemsM, seqOf, gTupM, gLstM, valsOf, isi_int, isi_bool, isi_tup, isi_lst, len_tup, len_list, len_lst, g_sub, g_neg, g_add, g_lt, g_gt, g_le, g_ge, eq_int, ne_int, isN_int, isN_none, notN_int, notN_none, isN_tup, notN_tup, truD, in_nat, hb]) (by simp; omega)]
  obtain ⟨r, hr⟩ := where_head b ls 0 h
  rw [Nat.zero_add] at hr
  rw [hr]
  simp [def0, cRet, cAndV, cNotV, cOp, cC, cV, cChain, cOrV, cOrT, cCall, cIfS, cNx, cBad, cSeq, cSet, cB, cAnd, cOr, cNot, cIf, cFz, cExpr, cMov, cYes, RE.bind, RE.toS, RS.then, evA, evP, Sm.Env.get, Sm.Env.put, Sm.Env.asg, getS, getM, startS, isCopy, lendC, backC, M.isHole, M.fz, M.view, Slot.cont, gN, gT, gsC, gsN, Sm.Env.wipe, Sm.Env.rest, wipeS, restS, cSl, asI, isLst, gApp, cMut, cPar, cPar3, cAsgG, LcOk, ForOk, RetOk, LcR, cLc, iSeq, itemsM, seqOf, gTupM, gLstM, valsOf, isi_int, isi_bool, isi_tup, isi_lst, len_tup, len_list, len_lst, g_sub, g_neg, g_add, g_lt, g_gt, g_le, g_ge, eq_int, ne_int, isN_int, isN_none, notN_int, notN_none, isN_tup, notN_tup, truD, ix_0M]
/-! ### the bar -/
inductive Bar where
  | none | lot (b : Nat) | turn (n : Nat)
  deriving DecidableEq
abbrev eBar : Bar → PyData
  | .none => .none
  | .lot b => .tuple [.str "lot", nI b]
  | .turn n => .tuple [.str "turn", nI n]
def lotBar (ps : List (Option Int)) (ls gl : List (List Nat)) (b : Nat) : Bool := decide (pr ps b = none) && !decide (whereIn ls b = whereIn gl b)
def turnBar (ps : List (Option Int)) (ls gl : List (List Nat)) (n : Nat) : Bool := !decide (fixedIn ps (gl.getD n []) = []) && decide (hold ps (ls.getD n []) (gl.getD n []) = [])
def barOf (ps : List (Option Int)) (ls gl : List (List Nat)) : Bar :=
  match (List.range ps.length).find? (lotBar ps ls gl) with
  | some b => .lot b
  | none => match (List.range gl.length).find? (turnBar ps ls gl) with
    | some n => .turn n
    | none => .none
/-- a shelf and a goal that the program takes -/
structure Lots (n k : Nat) (ls : List (List Nat)) : Prop where
  ne : ls ≠ []
  le : ls.length ≤ k
  nd : ls.flatten.Nodup
  cov : ∀ b, b ∈ ls.flatten ↔ b < n
structure Good (ps : List (Option Int)) (ls gl : List (List Nat)) : Prop where
  pn : ps ≠ []
  pl : ps.length ≤ 12
  pr : ∀ i, some i ∈ ps → 1 ≤ i ∧ i ≤ 99
  l : Lots ps.length 5 ls
  g : Lots ps.length ls.length gl
  e : gl.length = ls.length
theorem Lots.mem {n k : Nat} {ls : List (List Nat)} (h : Lots n k ls) {l : List Nat} (hl : l ∈ ls) {b : Nat} (hb : b ∈ l) : b < n := (h.cov b).mp (List.mem_flatten.mpr ⟨l, hl, hb⟩)
theorem Lots.nodup {n k : Nat} {ls : List (List Nat)} (h : Lots n k ls) {l : List Nat} (hl : l ∈ ls) : l.Nodup := (List.pairwise_flatten.mp h.nd).1 l hl
theorem Lots.there {n k : Nat} {ls : List (List Nat)} (h : Lots n k ls) {b : Nat} (hb : b < n) : ∃ l ∈ ls, b ∈ l := List.mem_flatten.mp ((h.cov b).mpr hb)
theorem nodup_bound : ∀ (n : Nat) (l : List Nat), l.Nodup → (∀ b ∈ l, b < n) → l.length ≤ n := by
  intro n l h1 h2
  have h3 : l ⊆ List.range n := fun b hb => List.mem_range.mpr (h2 b hb)
  have := List.Nodup.length_le_of_subset h1 h3
  simpa using this
theorem Lots.len {n k : Nat} {ls : List (List Nat)} (h : Lots n k ls) {l : List Nat} (hl : l ∈ ls) : l.length ≤ n := nodup_bound n l (h.nodup hl) fun b hb => h.mem hl hb
theorem Good.lot {ps ls gl} (G : Good ps ls gl) {n : Nat} (h1 : n < gl.length) (h2 : n < ls.length) : LotOk ps ls[n] gl[n] :=
  ⟨fun b hb => G.g.mem (List.getElem_mem h1) hb, by have := G.g.len (List.getElem_mem h1); have := G.pl; omega, G.l.nodup (List.getElem_mem h2), by have := G.l.len (List.getElem_mem h2); have := G.pl; omega⟩
theorem getD_lt {α : Type} {l : List α} {i : Nat} {d : α} (h : i < l.length) : l.getD i d = l[i] := by simp [h]
theorem ps_zip (ps : List (Option Int)) : ps.zipIdx = (List.range ps.length).map fun b => (pr ps b, b) := by
  apply List.ext_getElem
  · simp
  · intro i h1 h2
    simp at h1
    simp [pr, h1]
theorem gl_zip (gl : List (List Nat)) : gl.zipIdx = (List.range gl.length).map fun b => (gl.getD b [], b) := by
  apply List.ext_getElem
  · simp
  · intro i h1 h2
    simp at h1
    simp [h1]
abbrev bar1 (C : Str → Addr) : DS := cIfS (cAnd (cB (cOp gIsN [.v 3, .e (cC (.val .none))])) (cB (cOp gNe [.e (cCall (d_lot_of C) [.e (cOp gIx [.v 0, .e (cC (.val (.int 1)))]), .v 2]), .e (cCall (d_lot_of C) [.v 1, .v 2])]))) (cRet (cOp gTupM [.e (cC (.val (.str "lot"))), .v 2])) cNx
abbrev bar2 (C : Str → Addr) : DS := cIfS (cAnd (cB (cOp gNe [.e (cCall (d_fixed_in C) [.v 0, .v 5]), .e (cOp gLstM [])])) (cB (cOp gEq [.e (cCall (d_holding C) [.v 0, .v 4, .v 1]), .e (cOp gLstM [])]))) (cRet (cOp gTupM [.e (cC (.val (.str "turn"))), .v 4])) cNx
theorem bar1_step {ps ls gl} (G : Good ps ls gl) {b : Nat} (hb : b < ps.length) (j2 j3 j4 j5 : Sm.Slot) : 
    (lotBar ps ls gl b = false → ForOk (gT 2 (gsC (gN 2) (gsC (gN 3) gsN))) (bar1 C) (.tuple [.int (b : Int), eP (pr ps b)]) ⟨[.own (vv (eSh ps ls)), .own (vv (eLots gl)), j2, j3, j4, j5], [vv (eSh ps ls), vv (eLots gl)]⟩ fun e => ∃ j2 j3 j4 j5 : Sm.Slot, e = ⟨[.own (vv (eSh ps ls)), .own (vv (eLots gl)), j2, j3, j4, j5], [vv (eSh ps ls), vv (eLots gl)]⟩) ∧
    (lotBar ps ls gl b = true → RetOk (gT 2 (gsC (gN 2) (gsC (gN 3) gsN))) (bar1 C) (.tuple [.int (b : Int), eP (pr ps b)]) ⟨[.own (vv (eSh ps ls)), .own (vv (eLots gl)), j2, j3, j4, j5], [vv (eSh ps ls), vv (eLots gl)]⟩ fun m e => m = .val (eBar (.lot b)) ∧ e.a = [vv (eSh ps ls), vv (eLots gl)]) := by
  have l1 := e_lot_of (C := C) ls b (G.l.there hb) (by have := G.l.le; omega)
  have l2 := e_lot_of (C := C) gl b (G.g.there hb) (by have := G.g.le; have := G.l.le; omega)
  have hc : (decide ((whereIn ls b : Int) = (whereIn gl b : Int))) = decide (whereIn ls b = whereIn gl b) := by
    by_cases h : whereIn ls b = whereIn gl b
    · simp [h]
    · simp [h]; omega
  cases q : pr ps b with
  | some i =>
    refine ⟨fun _ => ?_, fun h => ?_⟩
    · simp [def0, cRet, cAndV, cNotV, cOp, cC, cV, cChain, cOrV, cOrT, cCall, cIfS, cNx, cBad, cSeq, cSet, cB, cAnd, cOr, cNot, cIf, cFz, cExpr, cMov, cYes, RE.bind, RE.toS, RS.then, evA, evP, Sm.Env.get, Sm.Env.put, Sm.Env.asg, getS, getM, startS, isCopy, lendC, backC, M.isHole, M.fz, M.view, Slot.cont, gN, gT, gsC, gsN, Sm.Env.wipe, Sm.Env.rest, wipeS, restS, cSl, asI, isLst, gApp, cMut, cPar, cPar3, cAsgG, LcOk, ForOk, RetOk, LcR, cLc, iSeq, itemsM, seqOf, gTupM, gLstM, valsOf, isi_int, isi_bool, isi_tup, isi_lst, len_tup, len_list, len_lst, g_sub, g_neg, g_add, g_lt, g_gt, g_le, g_ge, eq_int, ne_int, isN_int, isN_none, notN_int, notN_none, isN_tup, notN_tup, truD, q]
    · simp [lotBar, q] at h
  | none =>
    refine ⟨fun h => ?_, fun h => ?_⟩
    · have h' : whereIn ls b = whereIn gl b := by simpa [lotBar, q] using h
      simp [def0, cRet, cAndV, cNotV, cOp, cC, cV, cChain, cOrV, cOrT, cCall, cIfS, cNx, cBad, cSeq, cSet, cB, cAnd, cOr, cNot, cIf, cFz, cExpr, cMov, cYes, RE.bind, RE.toS, RS.then, evA, evP, Sm.Env.get, Sm.Env.put, Sm.Env.asg, getS, getM, startS, isCopy, lendC, backC, M.isHole, M.fz, M.view, Slot.cont, gN, gT, gsC, gsN, Sm.Env.wipe, Sm.Env.rest, wipeS, restS, cSl, asI, isLst, gApp, cMut, cPar, cPar3, cAsgG, LcOk, ForOk, RetOk, LcR, cLc, iSeq, itemsM, seqOf, gTupM, gLstM, valsOf, isi_int, isi_bool, isi_tup, isi_lst, len_tup, len_list, len_lst, g_sub, g_neg, g_add, g_lt, g_gt, g_le, g_ge, eq_int, ne_int, isN_int, isN_none, notN_int, notN_none, isN_tup, notN_tup, truD, q, ix_sh1, l1, l2, h']
    · have h' : ¬ whereIn ls b = whereIn gl b := by simpa [lotBar, q] using h
      have h2 : ¬ (whereIn ls b : Int) = (whereIn gl b : Int) := by omega
      simp [def0, cRet, cAndV, cNotV, cOp, cC, cV, cChain, cOrV, cOrT, cCall, cIfS, cNx, cBad, cSeq, cSet, cB, cAnd, cOr, cNot, cIf, cFz, cExpr, cMov, cYes, RE.bind, RE.toS, RS.then, evA, evP, Sm.Env.get, Sm.Env.put, Sm.Env.asg, getS, getM, startS, isCopy, lendC, backC, M.isHole, M.fz, M.view, Slot.cont, gN, gT, gsC, gsN, Sm.Env.wipe, Sm.Env.rest, wipeS, restS, cSl, asI, isLst, gApp, cMut, cPar, cPar3, cAsgG, LcOk, ForOk, RetOk, LcR, cLc, iSeq, itemsM, seqOf, gTupM, gLstM, valsOf, isi_int, isi_bool, isi_tup, isi_lst, len_tup, len_list, len_lst, g_sub, g_neg, g_add, g_lt, g_gt, g_le, g_ge, eq_int, ne_int, isN_int, isN_none, notN_int, notN_none, isN_tup, notN_tup, truD, q, ix_sh1, l1, l2, h2]
end
end Wk

namespace Wk
noncomputable section
open PySem PySem.Spec Sm Mp
variable {C : Str → Addr}
theorem ne_nil0 : gNe [.val (.list []), .lst []] = some (.val (.bool false)) := by
  have := ne_nilL (l := []) rfl
  simpa using this
theorem eq_nil0 : gEq [.val (.list []), .lst []] = some (.val (.bool true)) := by
  have := eq_nilL (l := []) rfl
  simpa using this
theorem eq_nilP : gEq [.val (ePrs []), .lst []] = some (.val (.bool true)) := eq_nil0
theorem bar2_step {ps ls gl} (G : Good ps ls gl) {n : Nat} (hb : n < gl.length) (j2 j3 j4 j5 : Sm.Slot) : 
    (turnBar ps ls gl n = false → ForOk (gT 2 (gsC (gN 4) (gsC (gN 5) gsN))) (bar2 C) (.tuple [.int (n : Int), eLot (gl.getD n [])]) ⟨[.own (vv (eSh ps ls)), .own (vv (eLots gl)), j2, j3, j4, j5], [vv (eSh ps ls), vv (eLots gl)]⟩ fun e => ∃ j2 j3 j4 j5 : Sm.Slot, e = ⟨[.own (vv (eSh ps ls)), .own (vv (eLots gl)), j2, j3, j4, j5], [vv (eSh ps ls), vv (eLots gl)]⟩) ∧
    (turnBar ps ls gl n = true → RetOk (gT 2 (gsC (gN 4) (gsC (gN 5) gsN))) (bar2 C) (.tuple [.int (n : Int), eLot (gl.getD n [])]) ⟨[.own (vv (eSh ps ls)), .own (vv (eLots gl)), j2, j3, j4, j5], [vv (eSh ps ls), vv (eLots gl)]⟩ fun m e => m = .val (eBar (.turn n)) ∧ e.a = [vv (eSh ps ls), vv (eLots gl)]) := by
  have h2 : n < ls.length := by have := G.e; omega
  have ok := G.lot hb h2
  have l1 := e_fixed_in (C := C) ps ls gl[n] ok.b (by have := ok.z; omega)
  have l2 := e_hold (C := C) ps ls gl n hb h2 ok
  have c1 : cl 60 (.list ((fixedIn ps gl[n]).map nI)) = true := cl_list nI 59 _ fun _ => cl_int
  have c2 : cl 60 (ePrs (hold ps ls[n] gl[n])) = true := cl_list ePr 59 _ fun q => cl_pr 58 q
  unfold turnBar
  rw [getD_lt hb, getD_lt h2]
  by_cases a1 : fixedIn ps gl[n] = []
  · refine ⟨fun _ => ?_, fun h => ?_⟩
    · simp [def0, cRet, cAndV, cNotV, cOp, cC, cV, cChain, cOrV, cOrT, cCall, cIfS, cNx, cBad, cSeq, cSet, cB, cAnd, cOr, cNot, cIf, cFz, cExpr, cMov, cYes, RE.bind, RE.toS, RS.then, evA, evP, Sm.Env.get, Sm.Env.put, Sm.Env.asg, getS, getM, startS, isCopy, lendC, backC, M.isHole, M.fz, M.view, Slot.cont, gN, gT, gsC, gsN, Sm.Env.wipe, Sm.Env.rest, wipeS, restS, cSl, asI, isLst, gApp, cMut, cPar, cPar3, cAsgG, LcOk, ForOk, RetOk, LcR, cLc, iSeq, itemsM, seqOf, gTupM, gLstM, valsOf, isi_int, isi_bool, isi_tup, isi_lst, len_tup, len_list, len_lst, g_sub, g_neg, g_add, g_lt, g_gt, g_le, g_ge, eq_int, ne_int, isN_int, isN_none, notN_int, notN_none, isN_tup, notN_tup, truD, l1, ne_nil0, a1]
    · simp [a1] at h
  · by_cases a2 : hold ps ls[n] gl[n] = []
    · refine ⟨fun h => ?_, fun _ => ?_⟩
      · simp [a1, a2] at h
      · simp [def0, cRet, cAndV, cNotV, cOp, cC, cV, cChain, cOrV, cOrT, cCall, cIfS, cNx, cBad, cSeq, cSet, cB, cAnd, cOr, cNot, cIf, cFz, cExpr, cMov, cYes, RE.bind, RE.toS, RS.then, evA, evP, Sm.Env.get, Sm.Env.put, Sm.Env.asg, getS, getM, startS, isCopy, lendC, backC, M.isHole, M.fz, M.view, Slot.cont, gN, gT, gsC, gsN, Sm.Env.wipe, Sm.Env.rest, wipeS, restS, cSl, asI, isLst, gApp, cMut, cPar, cPar3, cAsgG, LcOk, ForOk, RetOk, LcR, cLc, iSeq, itemsM, seqOf, gTupM, gLstM, valsOf, isi_int, isi_bool, isi_tup, isi_lst, len_tup, len_list, len_lst, g_sub, g_neg, g_add, g_lt, g_gt, g_le, g_ge, eq_int, ne_int, isN_int, isN_none, notN_int, notN_none, isN_tup, notN_tup, truD, l1, ne_nilL c1, a1, l2, eq_nilL c2, eq_nil0, eq_nilP, a2]
    · refine ⟨fun h => ?_, fun h => ?_⟩
      · simp [def0, cRet, cAndV, cNotV, cOp, cC, cV, cChain, cOrV, cOrT, cCall, cIfS, cNx, cBad, cSeq, cSet, cB, cAnd, cOr, cNot, cIf, cFz, cExpr, cMov, cYes, RE.bind, RE.toS, RS.then, evA, evP, Sm.Env.get, Sm.Env.put, Sm.Env.asg, getS, getM, startS, isCopy, lendC, backC, M.isHole, M.fz, M.view, Slot.cont, gN, gT, gsC, gsN, Sm.Env.wipe, Sm.Env.rest, wipeS, restS, cSl, asI, isLst, gApp, cMut, cPar, cPar3, cAsgG, LcOk, ForOk, RetOk, LcR, cLc, iSeq, itemsM, seqOf, gTupM, gLstM, valsOf, isi_int, isi_bool, isi_tup, isi_lst, len_tup, len_list, len_lst, g_sub, g_neg, g_add, g_lt, g_gt, g_le, g_ge, eq_int, ne_int, isN_int, isN_none, notN_int, notN_none, isN_tup, notN_tup, truD, l1, ne_nilL c1, a1, l2, eq_nilL c2, eq_nil0, eq_nilP, a2]
      · simp [a1, a2] at h
theorem e_bar_of {ps ls gl} (G : Good ps ls gl) : d_bar_of C [.val (eSh ps ls), .val (eLots gl)] = .ok (.val (eBar (barOf ps ls gl))) [.val (eSh ps ls), .val (eLots gl)] := by
  unfold d_bar_of b_bar_of
  simp [def0, cRet, cAndV, cNotV, cOp, cC, cV, cChain, cOrV, cOrT, cCall, cIfS, cNx, cBad, cSeq, cSet, cB, cAnd, cOr, cNot, cIf, cFz, cExpr, cMov, cYes, RE.bind, RE.toS, RS.then, evA, evP, Sm.Env.get, Sm.Env.put, Sm.Env.asg, getS, getM, startS, isCopy, lendC, backC, M.isHole, M.fz, M.view, Slot.cont, gN, gT, gsC, gsN, Sm.Env.wipe, Sm.Env.rest, wipeS, restS, cSl, asI, isLst, gApp, cMut, cPar, cPar3, cAsgG, LcOk, ForOk, RetOk, LcR, cLc, iSeq, itemsM, seqOf, gTupM, gLstM, valsOf, isi_int, isi_bool, isi_tup, isi_lst, len_tup, len_list, len_lst, g_sub, g_neg, g_add, g_lt, g_gt, g_le, g_ge, eq_int, ne_int, isN_int, isN_none, notN_int, notN_none, isN_tup, notN_tup, truD, cFor, ix_sh0, enum_map, ps_zip, gl_zip, Function.comp_def]
  generalize hF : forD _ _ _ _ = F
  let P : Nat → Sm.Env → Prop := fun _ e => ∃ j2 j3 j4 j5 : Sm.Slot, e = ⟨[.own (vv (eSh ps ls)), .own (vv (eLots gl)), j2, j3, j4, j5], [vv (eSh ps ls), vv (eLots gl)]⟩
  have hr : ∀ (n i : Nat) (h : i < (List.range n).length), (List.range n)[i] = i := fun n i h => by simp
  cases hf : (List.range ps.length).find? (lotBar ps ls gl) with
  | some b =>
    obtain ⟨f1, f2, f3⟩ := List.find?_range_eq_some.mp hf
    have f2' : b < ps.length := by simpa using f2
    obtain ⟨m, e', rfl, rfl, h4⟩ := for_rt hF P (fun m e => m = .val (eBar (.lot b)) ∧ e.a = [vv (eSh ps ls), vv (eLots gl)]) ⟨_, _, _, _, rfl⟩ (k := b) (by simpa using f2') (fun i hi e ⟨j2, j3, j4, j5, he⟩ => by
        subst he
        rw [hr]
        exact (bar1_step G (by omega) _ _ _ _).1 (by simpa using f3 i hi)) (fun e ⟨j2, j3, j4, j5, he⟩ => by
        subst he
        rw [hr]
        exact (bar1_step G f2' _ _ _ _).2 f1)
    simp [barOf, hf, h4]
  | none =>
    have f1 := List.find?_range_eq_none.mp hf
    obtain ⟨e', rfl, j2, j3, j4, j5, rfl⟩ := for_at hF P ⟨_, _, _, _, rfl⟩ (fun i hi e ⟨j2, j3, j4, j5, he⟩ => by
        subst he
        rw [hr]
        have hi' : i < ps.length := by simpa using hi
        exact (bar1_step G hi' _ _ _ _).1 (by simpa using f1 i hi'))
    simp [def0, cRet, cAndV, cNotV, cOp, cC, cV, cChain, cOrV, cOrT, cCall, cIfS, cNx, cBad, cSeq, cSet, cB, cAnd, cOr, cNot, cIf, cFz, cExpr, cMov, cYes, RE.bind, RE.toS, RS.then, evA, evP, Sm.Env.get, Sm.Env.put, Sm.Env.asg, getS, getM, startS, isCopy, lendC, backC, M.isHole, M.fz, M.view, Slot.cont, gN, gT, gsC, gsN, Sm.Env.wipe, Sm.Env.rest, wipeS, restS, cSl, asI, isLst, gApp, cMut, cPar, cPar3, cAsgG, LcOk, ForOk, RetOk, LcR, cLc, iSeq, itemsM, seqOf, gTupM, gLstM, valsOf, isi_int, isi_bool, isi_tup, isi_lst, len_tup, len_list, len_lst, g_sub, g_neg, g_add, g_lt, g_gt, g_le, g_ge, eq_int, ne_int, isN_int, isN_none, notN_int, notN_none, isN_tup, notN_tup, truD, enum_map, gl_zip, Function.comp_def]
    generalize hF2 : forD _ _ _ _ = F2
    cases hf2 : (List.range gl.length).find? (turnBar ps ls gl) with
    | some b =>
      obtain ⟨f1, f2, f3⟩ := List.find?_range_eq_some.mp hf2
      have f2' : b < gl.length := by simpa using f2
      obtain ⟨m, e', rfl, rfl, h4⟩ := for_rt hF2 P (fun m e => m = .val (eBar (.turn b)) ∧ e.a = [vv (eSh ps ls), vv (eLots gl)]) ⟨_, _, _, _, rfl⟩ (k := b) (by simpa using f2') (fun i hi e ⟨j2, j3, j4, j5, he⟩ => by
          subst he
          rw [hr]
          exact (bar2_step G (by omega) _ _ _ _).1 (by simpa using f3 i hi)) (fun e ⟨j2, j3, j4, j5, he⟩ => by
          subst he
          rw [hr]
          exact (bar2_step G f2' _ _ _ _).2 f1)
      simp [barOf, hf, hf2, h4]
    | none =>
      have f1 := List.find?_range_eq_none.mp hf2
      obtain ⟨e', rfl, j2, j3, j4, j5, rfl⟩ := for_at hF2 P ⟨_, _, _, _, rfl⟩ (fun i hi e ⟨j2, j3, j4, j5, he⟩ => by
          subst he
          rw [hr]
          have hi' : i < gl.length := by simpa using hi
          exact (bar2_step G hi' _ _ _ _).1 (by simpa using f1 i hi'))
      simp [def0, cRet, cAndV, cNotV, cOp, cC, cV, cChain, cOrV, cOrT, cCall, cIfS, cNx, cBad, cSeq, cSet, cB, cAnd, cOr, cNot, cIf, cFz, cExpr, cMov, cYes, RE.bind, RE.toS, RS.then, evA, evP, Sm.Env.get, Sm.Env.put, Sm.Env.asg, getS, getM, startS, isCopy, lendC, backC, M.isHole, M.fz, M.view, Slot.cont, gN, gT, gsC, gsN, Sm.Env.wipe, Sm.Env.rest, wipeS, restS, cSl, asI, isLst, gApp, cMut, cPar, cPar3, cAsgG, LcOk, ForOk, RetOk, LcR, cLc, iSeq, itemsM, seqOf, gTupM, gLstM, valsOf, isi_int, isi_bool, isi_tup, isi_lst, len_tup, len_list, len_lst, g_sub, g_neg, g_add, g_lt, g_gt, g_le, g_ge, eq_int, ne_int, isN_int, isN_none, notN_int, notN_none, isN_tup, notN_tup, truD, barOf, hf, hf2]
end
end Wk

namespace Wk
noncomputable section
open PySem PySem.Spec Sm Mp
variable {C : Str → Addr}
/-! ### the taker -/
abbrev metD (met : List Nat) : KVs := met.map fun b : Nat => (.inl (b : Int), .bool true)
abbrev taker (C : Str → Addr) (n : Nat) (met : List Nat) : M := .ins (C "Taker") [("many", .val (nI n)), ("met", .dct (metD met))]
theorem valD_met (b : Nat) : ∀ met : List Nat, (valD (metD met) (.inl (b : Int))).isSome = decide (b ∈ met)
  | [] => rfl
  | c :: met => by
    have := valD_met b met
    by_cases h : c = b
    · subst h; simp [valD, List.find?_cons]
    · have h1 : ¬ ((c : Int) = (b : Int)) := by omega
      have h2 : ¬ b = c := fun z => h z.symm
      have e : valD (metD (c :: met)) (.inl (b : Int)) = valD (metD met) (.inl (b : Int)) := by simp [valD, List.find?_cons, h1]
      rw [e, this]
      simp [h2]
theorem putD_met {met : List Nat} {b : Nat} (h : b ∉ met) : putD (metD met) (.inl (b : Int)) (.bool true) = metD (met ++ [b]) := by
  rw [putD_new]
  · simp [metD]
  · intro p hp z
    obtain ⟨c, hc, rfl⟩ := List.mem_map.mp hp
    have : (c : Int) = (b : Int) := by injection z
    have : c = b := by omega
    subst this; exact h hc
theorem ne_mm : ¬ (Str.ofString "many" = Str.ofString "met") := by decide
theorem ne_mm2 : ¬ (Str.ofString "met" = Str.ofString "many") := by decide
theorem bq_tm : (Str.ofString "takes" == Str.ofString "many") = false := by decide
theorem bq_te : (Str.ofString "takes" == Str.ofString "met") = false := by decide
theorem bq_lm : (Str.ofString "lacking" == Str.ofString "many") = false := by decide
theorem bq_le : (Str.ofString "lacking" == Str.ofString "met") = false := by decide
theorem bq_mm : (Str.ofString "met" == Str.ofString "many") = false := by decide
theorem e_taker_init (n : Nat) : d_Taker_init C [.ins (C "Taker") [], .val (nI n)] = .ok (.val .none) [taker C n [], .val (nI n)] := by
  unfold d_Taker_init b_Taker_init
  simp [def0, cRet, cAndV, cNotV, cOp, cC, cV, cChain, cOrV, cOrT, cCall, cIfS, cNx, cBad, cSeq, cSet, cB, cAnd, cOr, cNot, cIf, cFz, cExpr, cMov, cYes, RE.bind, RE.toS, RS.then, evA, evP, Sm.Env.get, Sm.Env.put, Sm.Env.asg, getS, getM, startS, isCopy, lendC, backC, M.isHole, M.fz, M.view, Slot.cont, gN, gT, gsC, gsN, Sm.Env.wipe, Sm.Env.rest, wipeS, restS, cSl, asI, isLst, gApp, cMut, cPar, cPar3, cAsgG, LcOk, ForOk, RetOk, LcR, cLc, iSeq, itemsM, seqOf, gTupM, gLstM, valsOf, isi_int, isi_bool, isi_tup, isi_lst, len_tup, len_list, len_lst, g_sub, g_neg, g_add, g_lt, g_gt, g_le, g_ge, eq_int, ne_int, isN_int, isN_none, notN_int, notN_none, isN_tup, notN_tup, truD, cSetF, putFl, ne_mm]
theorem fld_many (n : Nat) (met : List Nat) : fldOf (C "Taker") "many" (taker C n met) = some (.val (nI n)) := by
  simp [fldOf, List.lookup]
theorem met_dct (n : Nat) (met : List Nat) : dctFld (C "Taker") "met" (taker C n met) = some (metD met) := by
  simp [dctFld, List.lookup, bq_mm]
theorem met_put (n : Nat) (met : List Nat) (b : Nat) (h : b ∉ met) (hz : met.length < 16777216) : dputFM (C "Taker") "met" (.val (nI b)) (taker C n met) (.val (.bool true)) = some (taker C n (met ++ [b])) := by
  have : dputFM (C "Taker") "met" (.val (nI b)) (taker C n met) (.val (.bool true)) = if C "Taker" = C "Taker" ∧ (metD met).length < 16777216 then some (.ins (C "Taker") (putFl "met" (.dct (putD (metD met) (.inl (b : Int)) (.bool true))) [("many", .val (nI n)), ("met", .dct (metD met))])) else none := by
    simp [dputFM, keyM, keyD, List.lookup, bq_mm, valOf]
  rw [this, if_pos ⟨rfl, by simpa using hz⟩, putD_met h]
  simp [putFl, ne_mm]
theorem e_takes (n : Nat) (met l : List Nat) (h1 : ∀ b ∈ l, b < n) (h2 : (met ++ l).Nodup) (hz : met.length + l.length < 1000) : d_Taker_takes C [taker C n met, .val (eLot l)] = .ok (.val (.bool true)) [taker C n (met ++ l), .val (eLot l)] := by
  unfold d_Taker_takes b_Taker_takes
  simp [def0, cRet, cAndV, cNotV, cOp, cC, cV, cChain, cOrV, cOrT, cCall, cIfS, cNx, cBad, cSeq, cSet, cB, cAnd, cOr, cNot, cIf, cFz, cExpr, cMov, cYes, RE.bind, RE.toS, RS.then, evA, evP, Sm.Env.get, Sm.Env.put, Sm.Env.asg, getS, getM, startS, isCopy, lendC, backC, M.isHole, M.fz, M.view, Slot.cont, gN, gT, gsC, gsN, Sm.Env.wipe, Sm.Env.rest, wipeS, restS, cSl, asI, isLst, gApp, cMut, cPar, cPar3, cAsgG, LcOk, ForOk, RetOk, LcR, cLc, iSeq, itemsM, seqOf, gTupM, gLstM, valsOf, isi_int, isi_bool, isi_tup, isi_lst, len_tup, len_list, len_lst, g_sub, g_neg, g_add, g_lt, g_gt, g_le, g_ge, eq_int, ne_int, isN_int, isN_none, notN_int, notN_none, isN_tup, notN_tup, truD, cFor]
  generalize hF : forD _ _ _ _ = F
  obtain ⟨e', rfl, j, rfl⟩ := for_at hF (fun i e => ∃ j : Sm.Slot, e = ⟨[.bor 0, .own (vv (eLot l)), j], [taker C n (met ++ l.take i), vv (eLot l)]⟩) ⟨.own .hole, by simp⟩ (fun i hi e ⟨j, he⟩ => by
    subst he
    have hb := h1 l[i] (List.getElem_mem hi)
    have hn : l[i] ∉ met ++ l.take i := by
      intro z
      have e1 : met ++ l = (met ++ l.take i) ++ l[i] :: l.drop (i + 1) := by
        rw [List.append_assoc, ← List.drop_eq_getElem_cons hi, List.take_append_drop]
      rw [e1] at h2
      have := (List.nodup_append.mp h2).2.2 _ z l[i] List.mem_cons_self
      exact this rfl
    have hz2 : (met ++ l.take i).length < 16777216 := by rw [List.length_append, List.length_take]; omega
    have hc : (0 : Int) ≤ (l[i] : Int) ∧ (l[i] : Int) ≤ (n : Int) - 1 := by omega
    have hp := met_put (C := C) n (met ++ l.take i) l[i] hn hz2
    rw [List.take_succ_eq_append_getElem hi, ← List.append_assoc]
    generalize met ++ l.take i = mt at *
    generalize l[i] = b at *
    have hv := valD_met b mt
    rw [decide_eq_false hn] at hv
    simp [def0, cRet, cAndV, cNotV, cOp, cC, cV, cChain, cOrV, cOrT, cCall, cIfS, cNx, cBad, cSeq, cSet, cB, cAnd, cOr, cNot, cIf, cFz, cExpr, cMov, cYes, RE.bind, RE.toS, RS.then, evA, evP, Sm.Env.get, Sm.Env.put, Sm.Env.asg, getS, getM, startS, isCopy, lendC, backC, M.isHole, M.fz, M.view, Slot.cont, gN, gT, gsC, gsN, Sm.Env.wipe, Sm.Env.rest, wipeS, restS, cSl, asI, isLst, gApp, cMut, cPar, cPar3, cAsgG, LcOk, ForOk, RetOk, LcR, cLc, iSeq, itemsM, seqOf, gTupM, gLstM, valsOf, isi_int, isi_bool, isi_tup, isi_lst, len_tup, len_list, len_lst, g_sub, g_neg, g_add, g_lt, g_gt, g_le, g_ge, eq_int, ne_int, isN_int, isN_none, notN_int, notN_none, isN_tup, notN_tup, truD, cFld, fld_many, e_is_number, hc, cDInF, keyM, keyD, met_dct, hv, cDPutF, hp])
  simp [def0, cRet, cAndV, cNotV, cOp, cC, cV, cChain, cOrV, cOrT, cCall, cIfS, cNx, cBad, cSeq, cSet, cB, cAnd, cOr, cNot, cIf, cFz, cExpr, cMov, cYes, RE.bind, RE.toS, RS.then, evA, evP, Sm.Env.get, Sm.Env.put, Sm.Env.asg, getS, getM, startS, isCopy, lendC, backC, M.isHole, M.fz, M.view, Slot.cont, gN, gT, gsC, gsN, Sm.Env.wipe, Sm.Env.rest, wipeS, restS, cSl, asI, isLst, gApp, cMut, cPar, cPar3, cAsgG, LcOk, ForOk, RetOk, LcR, cLc, iSeq, itemsM, seqOf, gTupM, gLstM, valsOf, isi_int, isi_bool, isi_tup, isi_lst, len_tup, len_list, len_lst, g_sub, g_neg, g_add, g_lt, g_gt, g_le, g_ge, eq_int, ne_int, isN_int, isN_none, notN_int, notN_none, isN_tup, notN_tup, truD]
theorem e_lacking (n : Nat) (met : List Nat) (h : ∀ b, b < n → b ∈ met) (hz : n ≤ 1000) : d_Taker_lacking C [taker C n met] = .ok (.val .none) [taker C n met] := by
  unfold d_Taker_lacking b_Taker_lacking
  have hz' : n ≤ 1000000 := by omega
  simp [def0, cRet, cAndV, cNotV, cOp, cC, cV, cChain, cOrV, cOrT, cCall, cIfS, cNx, cBad, cSeq, cSet, cB, cAnd, cOr, cNot, cIf, cFz, cExpr, cMov, cYes, RE.bind, RE.toS, RS.then, evA, evP, Sm.Env.get, Sm.Env.put, Sm.Env.asg, getS, getM, startS, isCopy, lendC, backC, M.isHole, M.fz, M.view, Slot.cont, gN, gT, gsC, gsN, Sm.Env.wipe, Sm.Env.rest, wipeS, restS, cSl, asI, isLst, gApp, cMut, cPar, cPar3, cAsgG, LcOk, ForOk, RetOk, LcR, cLc, iSeq, itemsM, seqOf, gTupM, gLstM, valsOf, isi_int, isi_bool, isi_tup, isi_lst, len_tup, len_list, len_lst, g_sub, g_neg, g_add, g_lt, g_gt, g_le, g_ge, eq_int, ne_int, isN_int, isN_none, notN_int, notN_none, isN_tup, notN_tup, truD, cFld, fld_many, iRng1D, int1_nat hz', rng0_map]
  rw [lc_of (fun _ => false) nI (fun b hb => by
    have hv := valD_met b met
    rw [decide_eq_true (h b (by simpa using hb))] at hv
    simp [def0, cRet, cAndV, cNotV, cOp, cC, cV, cChain, cOrV, cOrT, cCall, cIfS, cNx, cBad, cSeq, cSet, cB, cAnd, cOr, cNot, cIf, cFz, cExpr, cMov, cYes, RE.bind, RE.toS, RS.then, evA, evP, Sm.Env.get, Sm.Env.put, Sm.Env.asg, getS, getM, startS, isCopy, lendC, backC, M.isHole, M.fz, M.view, Slot.cont, gN, gT, gsC, gsN, Sm.Env.wipe, Sm.Env.rest, wipeS, restS, cSl, asI, isLst, gApp, cMut, cPar, cPar3, cAsgG, LcOk, ForOk, RetOk, LcR, cLc, iSeq, itemsM, seqOf, gTupM, gLstM, valsOf, isi_int, isi_bool, isi_tup, isi_lst, len_tup, len_list, len_lst, g_sub, g_neg, g_add, g_lt, g_gt, g_le, g_ge, eq_int, ne_int, isN_int, isN_none, notN_int, notN_none, isN_tup, notN_tup, truD, cDInF, keyM, keyD, met_dct, hv]) (by simp; omega), List.filter_eq_nil_iff.mpr (fun _ _ h => by cases h)]
  simp [def0, cRet, cAndV, cNotV, cOp, cC, cV, cChain, cOrV, cOrT, cCall, cIfS, cNx, cBad, cSeq, cSet, cB, cAnd, cOr, cNot, cIf, cFz, cExpr, cMov, cYes, RE.bind, RE.toS, RS.then, evA, evP, Sm.Env.get, Sm.Env.put, Sm.Env.asg, getS, getM, startS, isCopy, lendC, backC, M.isHole, M.fz, M.view, Slot.cont, gN, gT, gsC, gsN, Sm.Env.wipe, Sm.Env.rest, wipeS, restS, cSl, asI, isLst, gApp, cMut, cPar, cPar3, cAsgG, LcOk, ForOk, RetOk, LcR, cLc, iSeq, itemsM, seqOf, gTupM, gLstM, valsOf, isi_int, isi_bool, isi_tup, isi_lst, len_tup, len_list, len_lst, g_sub, g_neg, g_add, g_lt, g_gt, g_le, g_ge, eq_int, ne_int, isN_int, isN_none, notN_int, notN_none, isN_tup, notN_tup, truD, ne_nil0]
theorem cl_P (n : Nat) (p : Option Int) : cl n (eP p) = true := by cases p <;> simp [cl_int, cl_none]
theorem cl_lot (n : Nat) (l : List Nat) : cl (n + 1) (eLot l) = true := cl_tupl nI n l fun _ => cl_int
theorem eq_tup0 {l : List PyData} (h : cl 60 (.tuple l) = true) : gEq [.val (.tuple l), .val (.tuple [])] = some (.val (.bool (decide (l = [])))) := by
  rw [gEq_cl (d := .tuple l) (e := .tuple []) rfl rfl h rfl, eqv_dec (p := l = []) h rfl (by simp)]
theorem e_first_bad_price (ps : List (Option Int)) (h0 : ps ≠ []) (h1 : ps.length ≤ 12) (h2 : ∀ i, some i ∈ ps → 1 ≤ i ∧ i ≤ 99) : d_first_bad_price C [.val (ePs ps)] = .ok (.val .none) [.val (ePs ps)] := by
  have hc : cl 60 (ePs ps) = true := cl_tupl eP 59 ps fun p => cl_P 59 p
  unfold d_first_bad_price b_first_bad_price
  simp [def0, cRet, cAndV, cNotV, cOp, cC, cV, cChain, cOrV, cOrT, cCall, cIfS, cNx, cBad, cSeq, cSet, cB, cAnd, cOr, cNot, cIf, cFz, cExpr, cMov, cYes, RE.bind, RE.toS, RS.then, evA, evP, Sm.Env.get, Sm.Env.put, Sm.Env.asg, getS, getM, startS, isCopy, lendC, backC, M.isHole, M.fz, M.view, Slot.cont, gN, gT, gsC, gsN, Sm.Env.wipe, Sm.Env.rest, wipeS, restS, cSl, asI, isLst, gApp, cMut, cPar, cPar3, cAsgG, LcOk, ForOk, RetOk, LcR, cLc, iSeq, itemsM, seqOf, gTupM, gLstM, valsOf, isi_int, isi_bool, isi_tup, isi_lst, len_tup, len_list, len_lst, g_sub, g_neg, g_add, g_lt, g_gt, g_le, g_ge, eq_int, ne_int, isN_int, isN_none, notN_int, notN_none, isN_tup, notN_tup, truD, eq_tup0 hc, h0, cFor, enum_map, ps_zip, Function.comp_def]
  generalize hF : forD _ _ _ _ = F
  obtain ⟨e', rfl, j1, j2, rfl⟩ := for_at hF (fun i e => ∃ j1 j2 : Sm.Slot, e = ⟨[.own (vv (ePs ps)), j1, j2], [vv (ePs ps)]⟩) ⟨_, _, rfl⟩ (fun i hi e ⟨j1, j2, he⟩ => by
    subst he
    have hi' : i < ps.length := by simpa using hi
    have hr : (List.range ps.length)[i] = i := by simp
    rw [hr]
    have hn : ¬ ((i : Int) = 12) := by omega
    cases q : pr ps i with
    | none => simp [def0, cRet, cAndV, cNotV, cOp, cC, cV, cChain, cOrV, cOrT, cCall, cIfS, cNx, cBad, cSeq, cSet, cB, cAnd, cOr, cNot, cIf, cFz, cExpr, cMov, cYes, RE.bind, RE.toS, RS.then, evA, evP, Sm.Env.get, Sm.Env.put, Sm.Env.asg, getS, getM, startS, isCopy, lendC, backC, M.isHole, M.fz, M.view, Slot.cont, gN, gT, gsC, gsN, Sm.Env.wipe, Sm.Env.rest, wipeS, restS, cSl, asI, isLst, gApp, cMut, cPar, cPar3, cAsgG, LcOk, ForOk, RetOk, LcR, cLc, iSeq, itemsM, seqOf, gTupM, gLstM, valsOf, isi_int, isi_bool, isi_tup, isi_lst, len_tup, len_list, len_lst, g_sub, g_neg, g_add, g_lt, g_gt, g_le, g_ge, eq_int, ne_int, isN_int, isN_none, notN_int, notN_none, isN_tup, notN_tup, truD, q, hn, e_is_price_none]
    | some p =>
      have hm : some p ∈ ps := by
        unfold pr at q
        rw [List.getElem?_eq_getElem hi'] at q
        have : ps[i] = some p := by simpa using q
        rw [← this]; exact List.getElem_mem hi'
      have := h2 p hm
      simp [def0, cRet, cAndV, cNotV, cOp, cC, cV, cChain, cOrV, cOrT, cCall, cIfS, cNx, cBad, cSeq, cSet, cB, cAnd, cOr, cNot, cIf, cFz, cExpr, cMov, cYes, RE.bind, RE.toS, RS.then, evA, evP, Sm.Env.get, Sm.Env.put, Sm.Env.asg, getS, getM, startS, isCopy, lendC, backC, M.isHole, M.fz, M.view, Slot.cont, gN, gT, gsC, gsN, Sm.Env.wipe, Sm.Env.rest, wipeS, restS, cSl, asI, isLst, gApp, cMut, cPar, cPar3, cAsgG, LcOk, ForOk, RetOk, LcR, cLc, iSeq, itemsM, seqOf, gTupM, gLstM, valsOf, isi_int, isi_bool, isi_tup, isi_lst, len_tup, len_list, len_lst, g_sub, g_neg, g_add, g_lt, g_gt, g_le, g_ge, eq_int, ne_int, isN_int, isN_none, notN_int, notN_none, isN_tup, notN_tup, truD, q, hn, e_is_price, this])
  simp [def0, cRet, cAndV, cNotV, cOp, cC, cV, cChain, cOrV, cOrT, cCall, cIfS, cNx, cBad, cSeq, cSet, cB, cAnd, cOr, cNot, cIf, cFz, cExpr, cMov, cYes, RE.bind, RE.toS, RS.then, evA, evP, Sm.Env.get, Sm.Env.put, Sm.Env.asg, getS, getM, startS, isCopy, lendC, backC, M.isHole, M.fz, M.view, Slot.cont, gN, gT, gsC, gsN, Sm.Env.wipe, Sm.Env.rest, wipeS, restS, cSl, asI, isLst, gApp, cMut, cPar, cPar3, cAsgG, LcOk, ForOk, RetOk, LcR, cLc, iSeq, itemsM, seqOf, gTupM, gLstM, valsOf, isi_int, isi_bool, isi_tup, isi_lst, len_tup, len_list, len_lst, g_sub, g_neg, g_add, g_lt, g_gt, g_le, g_ge, eq_int, ne_int, isN_int, isN_none, notN_int, notN_none, isN_tup, notN_tup, truD]
theorem e_first_bad_lot (n k : Nat) (ls : List (List Nat)) (L : Lots n k ls) (hn : n ≤ 12) : d_first_bad_lot C [taker C n [], .val (eLots ls), .val (nI k)] = .ok (.val .none) [taker C n ls.flatten, .val (eLots ls), .val (nI k)] := by
  have hc : cl 60 (eLots ls) = true := cl_tupl eLot 59 ls fun l => cl_lot 58 l
  have h0 : ls ≠ [] := L.ne
  unfold d_first_bad_lot b_first_bad_lot
  simp [def0, cRet, cAndV, cNotV, cOp, cC, cV, cChain, cOrV, cOrT, cCall, cIfS, cNx, cBad, cSeq, cSet, cB, cAnd, cOr, cNot, cIf, cFz, cExpr, cMov, cYes, RE.bind, RE.toS, RS.then, evA, evP, Sm.Env.get, Sm.Env.put, Sm.Env.asg, getS, getM, startS, isCopy, lendC, backC, M.isHole, M.fz, M.view, Slot.cont, gN, gT, gsC, gsN, Sm.Env.wipe, Sm.Env.rest, wipeS, restS, cSl, asI, isLst, gApp, cMut, cPar, cPar3, cAsgG, LcOk, ForOk, RetOk, LcR, cLc, iSeq, itemsM, seqOf, gTupM, gLstM, valsOf, isi_int, isi_bool, isi_tup, isi_lst, len_tup, len_list, len_lst, g_sub, g_neg, g_add, g_lt, g_gt, g_le, g_ge, eq_int, ne_int, isN_int, isN_none, notN_int, notN_none, isN_tup, notN_tup, truD, eq_tup0 hc, h0, cFor, enum_map, gl_zip, Function.comp_def]
  generalize hF : forD _ _ _ _ = F
  obtain ⟨e', rfl, j1, j2, rfl⟩ := for_at hF (fun i e => ∃ j1 j2 : Sm.Slot, e = ⟨[.bor 0, .own (vv (eLots ls)), .own (vv (nI k)), j1, j2], [taker C n (ls.take i).flatten, vv (eLots ls), vv (nI k)]⟩) ⟨_, _, rfl⟩ (fun i hi e ⟨j1, j2, he⟩ => by
    subst he
    have hi' : i < ls.length := by simpa using hi
    have hr : (List.range ls.length)[i] = i := by simp
    have hg : ls[i]?.getD [] = ls[i] := by simp [hi']
    rw [hr, hg]
    have hk : ¬ ((i : Int) = (k : Int)) := by have := L.le; omega
    have e1 : (ls.take (i + 1)).flatten = (ls.take i).flatten ++ ls[i] := by
      rw [List.take_succ_eq_append_getElem hi']
      simp only [List.flatten_append, List.flatten_cons, List.flatten_nil, List.append_nil]
    have e2 : ls.flatten = (ls.take (i + 1)).flatten ++ (ls.drop (i + 1)).flatten := by
      rw [← List.flatten_append, List.take_append_drop]
    have nd : ((ls.take i).flatten ++ ls[i]).Nodup := by
      have := L.nd
      rw [e2, e1] at this
      exact (List.nodup_append.mp this).1
    have hlen : (ls.take i).flatten.length + ls[i].length < 1000 := by
      have := nodup_bound n _ nd fun b hb => by
        rw [← e1] at hb
        exact (L.cov b).mp (by rw [e2]; exact List.mem_append_left _ hb)
      rw [List.length_append] at this
      omega
    have ht := e_takes (C := C) n (ls.take i).flatten ls[i] (fun b hb => L.mem (List.getElem_mem hi') hb) nd hlen
    rw [e1]
    have ok : okRecv (C "Taker") "takes" (taker C n (ls.take i).flatten) = true := by
      simp [okRecv, List.lookup, bq_tm, bq_te]
    simp [def0, cRet, cAndV, cNotV, cOp, cC, cV, cChain, cOrV, cOrT, cCall, cIfS, cNx, cBad, cSeq, cSet, cB, cAnd, cOr, cNot, cIf, cFz, cExpr, cMov, cYes, RE.bind, RE.toS, RS.then, evA, evP, Sm.Env.get, Sm.Env.put, Sm.Env.asg, getS, getM, startS, isCopy, lendC, backC, M.isHole, M.fz, M.view, Slot.cont, gN, gT, gsC, gsN, Sm.Env.wipe, Sm.Env.rest, wipeS, restS, cSl, asI, isLst, gApp, cMut, cPar, cPar3, cAsgG, LcOk, ForOk, RetOk, LcR, cLc, iSeq, itemsM, seqOf, gTupM, gLstM, valsOf, isi_int, isi_bool, isi_tup, isi_lst, len_tup, len_list, len_lst, g_sub, g_neg, g_add, g_lt, g_gt, g_le, g_ge, eq_int, ne_int, isN_int, isN_none, notN_int, notN_none, isN_tup, notN_tup, truD, hk, cMeth, ok, ht])
  simp [def0, cRet, cAndV, cNotV, cOp, cC, cV, cChain, cOrV, cOrT, cCall, cIfS, cNx, cBad, cSeq, cSet, cB, cAnd, cOr, cNot, cIf, cFz, cExpr, cMov, cYes, RE.bind, RE.toS, RS.then, evA, evP, Sm.Env.get, Sm.Env.put, Sm.Env.asg, getS, getM, startS, isCopy, lendC, backC, M.isHole, M.fz, M.view, Slot.cont, gN, gT, gsC, gsN, Sm.Env.wipe, Sm.Env.rest, wipeS, restS, cSl, asI, isLst, gApp, cMut, cPar, cPar3, cAsgG, LcOk, ForOk, RetOk, LcR, cLc, iSeq, itemsM, seqOf, gTupM, gLstM, valsOf, isi_int, isi_bool, isi_tup, isi_lst, len_tup, len_list, len_lst, g_sub, g_neg, g_add, g_lt, g_gt, g_le, g_ge, eq_int, ne_int, isN_int, isN_none, notN_int, notN_none, isN_tup, notN_tup, truD]
theorem ix_sh0' (ps ls) : gIx [.val (.tuple [ePs ps, eLots ls]), .val (.int 0)] = some (.val (ePs ps)) := rfl
theorem e_need_shelf {ps ls gl} (G : Good ps ls gl) : d_need_shelf C [.val (eSh ps ls)] = .ok (.val .none) [.val (eSh ps ls)] := by
  have h1 := e_first_bad_price (C := C) ps G.pn G.pl G.pr
  have h2 := e_taker_init (C := C) ps.length
  have h3 : d_first_bad_lot C [taker C ps.length [], .val (eLots ls), .val (.int 5)] = .ok (.val .none) [taker C ps.length ls.flatten, .val (eLots ls), .val (.int 5)] := e_first_bad_lot ps.length 5 ls G.l G.pl
  have h4 := e_lacking (C := C) ps.length ls.flatten (fun b hb => (G.l.cov b).mpr hb) (by have := G.pl; omega)
  have ok : okRecv (C "Taker") "lacking" (taker C ps.length ls.flatten) = true := by
    simp [okRecv, List.lookup, bq_lm, bq_le]
  unfold d_need_shelf b_need_shelf
  simp [def0, cRet, cAndV, cNotV, cOp, cC, cV, cChain, cOrV, cOrT, cCall, cIfS, cNx, cBad, cSeq, cSet, cB, cAnd, cOr, cNot, cIf, cFz, cExpr, cMov, cYes, RE.bind, RE.toS, RS.then, evA, evP, Sm.Env.get, Sm.Env.put, Sm.Env.asg, getS, getM, startS, isCopy, lendC, backC, M.isHole, M.fz, M.view, Slot.cont, gN, gT, gsC, gsN, Sm.Env.wipe, Sm.Env.rest, wipeS, restS, cSl, asI, isLst, gApp, cMut, cPar, cPar3, cAsgG, LcOk, ForOk, RetOk, LcR, cLc, iSeq, itemsM, seqOf, gTupM, gLstM, valsOf, isi_int, isi_bool, isi_tup, isi_lst, len_tup, len_list, len_lst, g_sub, g_neg, g_add, g_lt, g_gt, g_le, g_ge, eq_int, ne_int, isN_int, isN_none, notN_int, notN_none, isN_tup, notN_tup, truD, ix_sh0, h1, cMake, h2, ix_sh1, h3, cMeth, ok, h4]
theorem e_need_goal {ps ls gl} (G : Good ps ls gl) : d_need_goal C [.val (eSh ps ls), .val (eLots gl)] = .ok (.val .none) [.val (eSh ps ls), .val (eLots gl)] := by
  have h2 := e_taker_init (C := C) ps.length
  have h3 := e_first_bad_lot (C := C) ps.length ls.length gl G.g G.pl
  have h4 := e_lacking (C := C) ps.length gl.flatten (fun b hb => (G.g.cov b).mpr hb) (by have := G.pl; omega)
  have ok : okRecv (C "Taker") "lacking" (taker C ps.length gl.flatten) = true := by
    simp [okRecv, List.lookup, bq_lm, bq_le]
  have hl : ¬ ((gl.length : Int) < (ls.length : Int)) := by have := G.e; omega
  unfold d_need_goal b_need_goal
  simp [def0, cRet, cAndV, cNotV, cOp, cC, cV, cChain, cOrV, cOrT, cCall, cIfS, cNx, cBad, cSeq, cSet, cB, cAnd, cOr, cNot, cIf, cFz, cExpr, cMov, cYes, RE.bind, RE.toS, RS.then, evA, evP, Sm.Env.get, Sm.Env.put, Sm.Env.asg, getS, getM, startS, isCopy, lendC, backC, M.isHole, M.fz, M.view, Slot.cont, gN, gT, gsC, gsN, Sm.Env.wipe, Sm.Env.rest, wipeS, restS, cSl, asI, isLst, gApp, cMut, cPar, cPar3, cAsgG, LcOk, ForOk, RetOk, LcR, cLc, iSeq, itemsM, seqOf, gTupM, gLstM, valsOf, isi_int, isi_bool, isi_tup, isi_lst, len_tup, len_list, len_lst, g_sub, g_neg, g_add, g_lt, g_gt, g_le, g_ge, eq_int, ne_int, isN_int, isN_none, notN_int, notN_none, isN_tup, notN_tup, truD, ix_sh0, cMake, h2, ix_sh1, h3, cMeth, ok, h4, hl]
theorem e_barred {ps ls gl} (G : Good ps ls gl) : d_barred C [.val (eSh ps ls), .val (eLots gl)] = .ok (.val (eBar (barOf ps ls gl))) [.val (eSh ps ls), .val (eLots gl)] := by
  unfold d_barred b_barred
  simp [def0, cRet, cAndV, cNotV, cOp, cC, cV, cChain, cOrV, cOrT, cCall, cIfS, cNx, cBad, cSeq, cSet, cB, cAnd, cOr, cNot, cIf, cFz, cExpr, cMov, cYes, RE.bind, RE.toS, RS.then, evA, evP, Sm.Env.get, Sm.Env.put, Sm.Env.asg, getS, getM, startS, isCopy, lendC, backC, M.isHole, M.fz, M.view, Slot.cont, gN, gT, gsC, gsN, Sm.Env.wipe, Sm.Env.rest, wipeS, restS, cSl, asI, isLst, gApp, cMut, cPar, cPar3, cAsgG, LcOk, ForOk, RetOk, LcR, cLc, iSeq, itemsM, seqOf, gTupM, gLstM, valsOf, isi_int, isi_bool, isi_tup, isi_lst, len_tup, len_list, len_lst, g_sub, g_neg, g_add, g_lt, g_gt, g_le, g_ge, eq_int, ne_int, isN_int, isN_none, notN_int, notN_none, isN_tup, notN_tup, truD, e_need_shelf G, e_need_goal G, e_bar_of G]
/-! ### the task -/
def runsOf (ps : List (Option Int)) (ls gl : List (List Nat)) : List (List (Nat × Nat)) := (List.range gl.length).map fun n => best ps (ls.getD n []) (gl.getD n [])
abbrev eRuns (rs : List (List (Nat × Nat))) : PyData := .list (rs.map ePrs)
theorem e_runs {ps ls gl} (G : Good ps ls gl) {n : Nat} (hn : n < gl.length) : d_greatest C [.val (eSh ps ls), .val (nI n), .val (eLots gl)] = .ok (.val (ePrs (best ps (ls.getD n []) (gl.getD n [])))) [.val (eSh ps ls), .val (nI n), .val (eLots gl)] := by
  have h2 : n < ls.length := by have := G.e; omega
  rw [getD_lt hn, getD_lt h2]
  exact e_greatest ps ls gl n hn h2 (G.lot hn h2)
theorem e_stays {ps ls gl} (G : Good ps ls gl) : d_stays C [.val (eSh ps ls), .val (eLots gl)] = .ok (.val (eRuns (runsOf ps ls gl))) [.val (eSh ps ls), .val (eLots gl)] := by
  have hz : gl.length ≤ 1000000 := by have := G.e; have := G.l.le; omega
  unfold d_stays b_stays
  simp [def0, cRet, cAndV, cNotV, cOp, cC, cV, cChain, cOrV, cOrT, cCall, cIfS, cNx, cBad, cSeq, cSet, cB, cAnd, cOr, cNot, cIf, cFz, cExpr, cMov, cYes, RE.bind, RE.toS, RS.then, evA, evP, Sm.Env.get, Sm.Env.put, Sm.Env.asg, getS, getM, startS, isCopy, lendC, backC, M.isHole, M.fz, M.view, Slot.cont, gN, gT, gsC, gsN, Sm.Env.wipe, Sm.Env.rest, wipeS, restS, cSl, asI, isLst, gApp, cMut, cPar, cPar3, cAsgG, LcOk, ForOk, RetOk, LcR, cLc, iSeq, itemsM, seqOf, gTupM, gLstM, valsOf, isi_int, isi_bool, isi_tup, isi_lst, len_tup, len_list, len_lst, g_sub, g_neg, g_add, g_lt, g_gt, g_le, g_ge, eq_int, ne_int, isN_int, isN_none, notN_int, notN_none, isN_tup, notN_tup, truD, e_need_shelf G, e_need_goal G, iRng1D, int1_nat hz, rng0_map]
  rw [lc_ofY (fun n => ePrs (best ps (ls.getD n []) (gl.getD n []))) (fun n hn => by
    have hn' : n < gl.length := by simpa using hn
    have := e_runs (C := C) G hn'
    simp [def0, cRet, cAndV, cNotV, cOp, cC, cV, cChain, cOrV, cOrT, cCall, cIfS, cNx, cBad, cSeq, cSet, cB, cAnd, cOr, cNot, cIf, cFz, cExpr, cMov, cYes, RE.bind, RE.toS, RS.then, evA, evP, Sm.Env.get, Sm.Env.put, Sm.Env.asg, getS, getM, startS, isCopy, lendC, backC, M.isHole, M.fz, M.view, Slot.cont, gN, gT, gsC, gsN, Sm.Env.wipe, Sm.Env.rest, wipeS, restS, cSl, asI, isLst, gApp, cMut, cPar, cPar3, cAsgG, LcOk, ForOk, RetOk, LcR, cLc, iSeq, itemsM, seqOf, gTupM, gLstM, valsOf, isi_int, isi_bool, isi_tup, isi_lst, len_tup, len_list, len_lst, g_sub, g_neg, g_add, g_lt, g_gt, g_le, g_ge, eq_int, ne_int, isN_int, isN_none, notN_int, notN_none, isN_tup, notN_tup, truD, this]) (by simp; omega)]
  simp [def0, cRet, cAndV, cNotV, cOp, cC, cV, cChain, cOrV, cOrT, cCall, cIfS, cNx, cBad, cSeq, cSet, cB, cAnd, cOr, cNot, cIf, cFz, cExpr, cMov, cYes, RE.bind, RE.toS, RS.then, evA, evP, Sm.Env.get, Sm.Env.put, Sm.Env.asg, getS, getM, startS, isCopy, lendC, backC, M.isHole, M.fz, M.view, Slot.cont, gN, gT, gsC, gsN, Sm.Env.wipe, Sm.Env.rest, wipeS, restS, cSl, asI, isLst, gApp, cMut, cPar, cPar3, cAsgG, LcOk, ForOk, RetOk, LcR, cLc, iSeq, itemsM, seqOf, gTupM, gLstM, valsOf, isi_int, isi_bool, isi_tup, isi_lst, len_tup, len_list, len_lst, g_sub, g_neg, g_add, g_lt, g_gt, g_le, g_ge, eq_int, ne_int, isN_int, isN_none, notN_int, notN_none, isN_tup, notN_tup, truD, runsOf, Function.comp_def]
abbrev task (C : Str → Addr) (ps : List (Option Int)) (ls gl : List (List Nat)) : M := .ins (C "Task") [("wood", .val (eSh ps ls)), ("wanted", .val (eLots gl)), ("runs", .val (eRuns (runsOf ps ls gl)))]
theorem nq1 : ¬ (Str.ofString "wood" = Str.ofString "wanted") := by decide
theorem nq2 : ¬ (Str.ofString "wood" = Str.ofString "runs") := by decide
theorem nq3 : ¬ (Str.ofString "wanted" = Str.ofString "runs") := by decide
theorem bq1 : (Str.ofString "wanted" == Str.ofString "wood") = false := by decide
theorem bq2 : (Str.ofString "runs" == Str.ofString "wood") = false := by decide
theorem bq3 : (Str.ofString "runs" == Str.ofString "wanted") = false := by decide
theorem e_Task_init {ps ls gl} (G : Good ps ls gl) : d_Task_init C [.ins (C "Task") [], .val (eSh ps ls), .val (eLots gl)] = .ok (.val .none) [task C ps ls gl, .val (eSh ps ls), .val (eLots gl)] := by
  have hz : gl.length ≤ 1000000 := by have := G.e; have := G.l.le; omega
  unfold d_Task_init b_Task_init
  simp [def0, cRet, cAndV, cNotV, cOp, cC, cV, cChain, cOrV, cOrT, cCall, cIfS, cNx, cBad, cSeq, cSet, cB, cAnd, cOr, cNot, cIf, cFz, cExpr, cMov, cYes, RE.bind, RE.toS, RS.then, evA, evP, Sm.Env.get, Sm.Env.put, Sm.Env.asg, getS, getM, startS, isCopy, lendC, backC, M.isHole, M.fz, M.view, Slot.cont, gN, gT, gsC, gsN, Sm.Env.wipe, Sm.Env.rest, wipeS, restS, cSl, asI, isLst, gApp, cMut, cPar, cPar3, cAsgG, LcOk, ForOk, RetOk, LcR, cLc, iSeq, itemsM, seqOf, gTupM, gLstM, valsOf, isi_int, isi_bool, isi_tup, isi_lst, len_tup, len_list, len_lst, g_sub, g_neg, g_add, g_lt, g_gt, g_le, g_ge, eq_int, ne_int, isN_int, isN_none, notN_int, notN_none, isN_tup, notN_tup, truD, cSetF, putFl, nq1, nq2, nq3, iRng1D, int1_nat hz, rng0_map]
  rw [lc_ofY (fun n => ePrs (best ps (ls.getD n []) (gl.getD n []))) (fun n hn => by
    have hn' : n < gl.length := by simpa using hn
    have := e_runs (C := C) G hn'
    simp [def0, cRet, cAndV, cNotV, cOp, cC, cV, cChain, cOrV, cOrT, cCall, cIfS, cNx, cBad, cSeq, cSet, cB, cAnd, cOr, cNot, cIf, cFz, cExpr, cMov, cYes, RE.bind, RE.toS, RS.then, evA, evP, Sm.Env.get, Sm.Env.put, Sm.Env.asg, getS, getM, startS, isCopy, lendC, backC, M.isHole, M.fz, M.view, Slot.cont, gN, gT, gsC, gsN, Sm.Env.wipe, Sm.Env.rest, wipeS, restS, cSl, asI, isLst, gApp, cMut, cPar, cPar3, cAsgG, LcOk, ForOk, RetOk, LcR, cLc, iSeq, itemsM, seqOf, gTupM, gLstM, valsOf, isi_int, isi_bool, isi_tup, isi_lst, len_tup, len_list, len_lst, g_sub, g_neg, g_add, g_lt, g_gt, g_le, g_ge, eq_int, ne_int, isN_int, isN_none, notN_int, notN_none, isN_tup, notN_tup, truD, this]) (by simp; omega)]
  simp [def0, cRet, cAndV, cNotV, cOp, cC, cV, cChain, cOrV, cOrT, cCall, cIfS, cNx, cBad, cSeq, cSet, cB, cAnd, cOr, cNot, cIf, cFz, cExpr, cMov, cYes, RE.bind, RE.toS, RS.then, evA, evP, Sm.Env.get, Sm.Env.put, Sm.Env.asg, getS, getM, startS, isCopy, lendC, backC, M.isHole, M.fz, M.view, Slot.cont, gN, gT, gsC, gsN, Sm.Env.wipe, Sm.Env.rest, wipeS, restS, cSl, asI, isLst, gApp, cMut, cPar, cPar3, cAsgG, LcOk, ForOk, RetOk, LcR, cLc, iSeq, itemsM, seqOf, gTupM, gLstM, valsOf, isi_int, isi_bool, isi_tup, isi_lst, len_tup, len_list, len_lst, g_sub, g_neg, g_add, g_lt, g_gt, g_le, g_ge, eq_int, ne_int, isN_int, isN_none, notN_int, notN_none, isN_tup, notN_tup, truD, runsOf, Function.comp_def, putFl, nq1, nq2, nq3]
theorem f_wood (ps ls gl) : fldOf (C "Task") "wood" (task C ps ls gl) = some (.val (eSh ps ls)) := by simp [fldOf, List.lookup]
theorem f_wanted (ps ls gl) : fldOf (C "Task") "wanted" (task C ps ls gl) = some (.val (eLots gl)) := by simp [fldOf, List.lookup, bq1]
theorem f_runs (ps ls gl) : fldOf (C "Task") "runs" (task C ps ls gl) = some (.val (eRuns (runsOf ps ls gl))) := by simp [fldOf, List.lookup, bq2, bq3]
theorem e_task_of {ps ls gl} (G : Good ps ls gl) : d_task_of C [.val (eSh ps ls), .val (eLots gl)] = .ok (task C ps ls gl) [.val (eSh ps ls), .val (eLots gl)] := by
  unfold d_task_of b_task_of
  simp [def0, cRet, cAndV, cNotV, cOp, cC, cV, cChain, cOrV, cOrT, cCall, cIfS, cNx, cBad, cSeq, cSet, cB, cAnd, cOr, cNot, cIf, cFz, cExpr, cMov, cYes, RE.bind, RE.toS, RS.then, evA, evP, Sm.Env.get, Sm.Env.put, Sm.Env.asg, getS, getM, startS, isCopy, lendC, backC, M.isHole, M.fz, M.view, Slot.cont, gN, gT, gsC, gsN, Sm.Env.wipe, Sm.Env.rest, wipeS, restS, cSl, asI, isLst, gApp, cMut, cPar, cPar3, cAsgG, LcOk, ForOk, RetOk, LcR, cLc, iSeq, itemsM, seqOf, gTupM, gLstM, valsOf, isi_int, isi_bool, isi_tup, isi_lst, len_tup, len_list, len_lst, g_sub, g_neg, g_add, g_lt, g_gt, g_le, g_ge, eq_int, ne_int, isN_int, isN_none, notN_int, notN_none, isN_tup, notN_tup, truD, e_need_shelf G, e_need_goal G, cMake, e_Task_init G]
theorem e_may {ps ls gl} (G : Good ps ls gl) : d_Task_may C [task C ps ls gl] = .ok (.val (.bool (decide (barOf ps ls gl = .none)))) [task C ps ls gl] := by
  unfold d_Task_may b_Task_may
  cases q : barOf ps ls gl <;> simp [def0, cRet, cAndV, cNotV, cOp, cC, cV, cChain, cOrV, cOrT, cCall, cIfS, cNx, cBad, cSeq, cSet, cB, cAnd, cOr, cNot, cIf, cFz, cExpr, cMov, cYes, RE.bind, RE.toS, RS.then, evA, evP, Sm.Env.get, Sm.Env.put, Sm.Env.asg, getS, getM, startS, isCopy, lendC, backC, M.isHole, M.fz, M.view, Slot.cont, gN, gT, gsC, gsN, Sm.Env.wipe, Sm.Env.rest, wipeS, restS, cSl, asI, isLst, gApp, cMut, cPar, cPar3, cAsgG, LcOk, ForOk, RetOk, LcR, cLc, iSeq, itemsM, seqOf, gTupM, gLstM, valsOf, isi_int, isi_bool, isi_tup, isi_lst, len_tup, len_list, len_lst, g_sub, g_neg, g_add, g_lt, g_gt, g_le, g_ge, eq_int, ne_int, isN_int, isN_none, notN_int, notN_none, isN_tup, notN_tup, truD, cFld, f_wood, f_wanted, e_bar_of G, q]
end
end Wk

namespace Wk
noncomputable section
open PySem PySem.Spec Sm Mp
variable {C : Str → Addr}
def chosen (ps : List (Option Int)) (ls gl : List (List Nat)) (n : Nat) : Nat × Nat := ((best ps (ls.getD n []) (gl.getD n [])).head?).getD (0, 0)
theorem ix_runs {ps ls gl} {n : Nat} (hn : n < gl.length) : gIx [.val (eRuns (runsOf ps ls gl)), .val (nI n)] = some (.val (ePrs (best ps (ls.getD n []) (gl.getD n [])))) := by
  rw [ix_natL (by simpa [runsOf] using hn)]
  simp [runsOf]
theorem cl_prs (l : List (Nat × Nat)) (n : Nat) : cl (n + 2) (ePrs l) = true := cl_list ePr (n + 1) l fun q => cl_pr n q
theorem ok_chosen (ps ls gl) : okRecv (C "Task") "chosen" (task C ps ls gl) = true := by
  have h1 : (Str.ofString "chosen" == Str.ofString "wood") = false := by decide
  have h2 : (Str.ofString "chosen" == Str.ofString "wanted") = false := by decide
  have h3 : (Str.ofString "chosen" == Str.ofString "runs") = false := by decide
  simp [okRecv, List.lookup, h1, h2, h3]
theorem ok_sides (ps ls gl) : okRecv (C "Task") "sides" (task C ps ls gl) = true := by
  have h1 : (Str.ofString "sides" == Str.ofString "wood") = false := by decide
  have h2 : (Str.ofString "sides" == Str.ofString "wanted") = false := by decide
  have h3 : (Str.ofString "sides" == Str.ofString "runs") = false := by decide
  simp [okRecv, List.lookup, h1, h2, h3]
theorem ok_may (ps ls gl) : okRecv (C "Task") "may" (task C ps ls gl) = true := by
  have h1 : (Str.ofString "may" == Str.ofString "wood") = false := by decide
  have h2 : (Str.ofString "may" == Str.ofString "wanted") = false := by decide
  have h3 : (Str.ofString "may" == Str.ofString "runs") = false := by decide
  simp [okRecv, List.lookup, h1, h2, h3]
theorem ok_cost (ps ls gl) : okRecv (C "Task") "cost" (task C ps ls gl) = true := by
  have h1 : (Str.ofString "cost" == Str.ofString "wood") = false := by decide
  have h2 : (Str.ofString "cost" == Str.ofString "wanted") = false := by decide
  have h3 : (Str.ofString "cost" == Str.ofString "runs") = false := by decide
  simp [okRecv, List.lookup, h1, h2, h3]
theorem ok_way (ps ls gl) : okRecv (C "Task") "way" (task C ps ls gl) = true := by
  have h1 : (Str.ofString "way" == Str.ofString "wood") = false := by decide
  have h2 : (Str.ofString "way" == Str.ofString "wanted") = false := by decide
  have h3 : (Str.ofString "way" == Str.ofString "runs") = false := by decide
  simp [okRecv, List.lookup, h1, h2, h3]
theorem ok_ways (ps ls gl) : okRecv (C "Task") "ways" (task C ps ls gl) = true := by
  have h1 : (Str.ofString "ways" == Str.ofString "wood") = false := by decide
  have h2 : (Str.ofString "ways" == Str.ofString "wanted") = false := by decide
  have h3 : (Str.ofString "ways" == Str.ofString "runs") = false := by decide
  simp [okRecv, List.lookup, h1, h2, h3]
theorem ne_nilP : gNe [.val (ePrs []), .lst []] = some (.val (.bool false)) := ne_nil0
theorem ix_0P {a : Nat × Nat} {l : List (Nat × Nat)} : gIx [.val (ePrs (a :: l)), .val (.int 0)] = some (.val (ePr a)) := ix_0L
theorem e_chosen {ps ls gl} {n : Nat} (hn : n < gl.length) : d_Task_chosen C [task C ps ls gl, .val (nI n)] = .ok (.val (ePr (chosen ps ls gl n))) [task C ps ls gl, .val (nI n)] := by
  have hc : cl 60 (ePrs (best ps (ls.getD n []) (gl.getD n []))) = true := cl_prs _ 58
  have hx := ix_runs (ps := ps) (ls := ls) hn
  unfold d_Task_chosen b_Task_chosen
  unfold chosen
  generalize best ps (ls.getD n []) (gl.getD n []) = l at *
  cases l with
  | nil => simp [def0, cRet, cAndV, cNotV, cOp, cC, cV, cChain, cOrV, cOrT, cCall, cIfS, cNx, cBad, cSeq, cSet, cB, cAnd, cOr, cNot, cIf, cFz, cExpr, cMov, cYes, RE.bind, RE.toS, RS.then, evA, evP, Sm.Env.get, Sm.Env.put, Sm.Env.asg, getS, getM, startS, isCopy, lendC, backC, M.isHole, M.fz, M.view, Slot.cont, gN, gT, gsC, gsN, Sm.Env.wipe, Sm.Env.rest, wipeS, restS, cSl, asI, isLst, gApp, cMut, cPar, cPar3, cAsgG, LcOk, ForOk, RetOk, LcR, cLc, iSeq, itemsM, seqOf, gTupM, gLstM, valsOf, isi_int, isi_bool, isi_tup, isi_lst, len_tup, len_list, len_lst, g_sub, g_neg, g_add, g_lt, g_gt, g_le, g_ge, eq_int, ne_int, isN_int, isN_none, notN_int, notN_none, isN_tup, notN_tup, truD, cFld, f_runs, hx, ne_nilP]
  | cons a l => simp [def0, cRet, cAndV, cNotV, cOp, cC, cV, cChain, cOrV, cOrT, cCall, cIfS, cNx, cBad, cSeq, cSet, cB, cAnd, cOr, cNot, cIf, cFz, cExpr, cMov, cYes, RE.bind, RE.toS, RS.then, evA, evP, Sm.Env.get, Sm.Env.put, Sm.Env.asg, getS, getM, startS, isCopy, lendC, backC, M.isHole, M.fz, M.view, Slot.cont, gN, gT, gsC, gsN, Sm.Env.wipe, Sm.Env.rest, wipeS, restS, cSl, asI, isLst, gApp, cMut, cPar, cPar3, cAsgG, LcOk, ForOk, RetOk, LcR, cLc, iSeq, itemsM, seqOf, gTupM, gLstM, valsOf, isi_int, isi_bool, isi_tup, isi_lst, len_tup, len_list, len_lst, g_sub, g_neg, g_add, g_lt, g_gt, g_le, g_ge, eq_int, ne_int, isN_int, isN_none, notN_int, notN_none, isN_tup, notN_tup, truD, cFld, f_runs, hx, ne_nilL hc, ix_0P]
theorem best_mem {ps : List (Option Int)} {old lot : List Nat} {q : Nat × Nat} (h : q ∈ best ps old lot) : q ∈ hold ps old lot := (List.mem_filter.mp h).1
theorem chosen_le {ps ls gl} (n : Nat) : (chosen ps ls gl n).1 ≤ (chosen ps ls gl n).2 ∧ (chosen ps ls gl n).2 ≤ (gl.getD n []).length := by
  unfold chosen
  cases h : (best ps (ls.getD n []) (gl.getD n [])).head? with
  | none => simp
  | some q =>
    have hm := hold_mem (best_mem (List.mem_of_mem_head? h))
    simp only [Option.getD_some]
    omega
def kept (ps : List (Option Int)) (ls gl : List (List Nat)) (n : Nat) : List Nat := seg (gl.getD n []) (chosen ps ls gl n).1 (chosen ps ls gl n).2
def costTo (ps : List (Option Int)) (ls gl : List (List Nat)) (k : Nat) : Int := price ps (List.range ps.length) - ((List.range k).map fun n => price ps (kept ps ls gl n)).sum
def costOf (ps : List (Option Int)) (ls gl : List (List Nat)) : Int := costTo ps ls gl gl.length
theorem e_cost {ps ls gl} (G : Good ps ls gl) : d_Task_cost C [task C ps ls gl] = .ok (.val (.int (costOf ps ls gl))) [task C ps ls gl] := by
  have hp := G.pl
  have h0 := e_price_inL (C := C) ps ls (List.range ps.length) (fun b hb => List.mem_range.mp hb) (by simp; omega)
  have hz : (ps.length : Int).natAbs ≤ 16777216 := by omega
  have hz2 : ps.length ≤ 16777216 := by omega
  unfold d_Task_cost b_Task_cost
  simp [def0, cRet, cAndV, cNotV, cOp, cC, cV, cChain, cOrV, cOrT, cCall, cIfS, cNx, cBad, cSeq, cSet, cB, cAnd, cOr, cNot, cIf, cFz, cExpr, cMov, cYes, RE.bind, RE.toS, RS.then, evA, evP, Sm.Env.get, Sm.Env.put, Sm.Env.asg, getS, getM, startS, isCopy, lendC, backC, M.isHole, M.fz, M.view, Slot.cont, gN, gT, gsC, gsN, Sm.Env.wipe, Sm.Env.rest, wipeS, restS, cSl, asI, isLst, gApp, cMut, cPar, cPar3, cAsgG, LcOk, ForOk, RetOk, LcR, cLc, iSeq, itemsM, seqOf, gTupM, gLstM, valsOf, isi_int, isi_bool, isi_tup, isi_lst, len_tup, len_list, len_lst, g_sub, g_neg, g_add, g_lt, g_gt, g_le, g_ge, eq_int, ne_int, isN_int, isN_none, notN_int, notN_none, isN_tup, notN_tup, truD, cRng1, cFld, f_wood, ix_sh0, hz, hz2, rng0_map, h0, cFor, f_wanted, enum_map, gl_zip, Function.comp_def]
  generalize hF : forD _ _ _ _ = F
  obtain ⟨e', rfl, j2, j3, j4, j5, rfl⟩ := for_at hF (fun i e => ∃ j2 j3 j4 j5 : Sm.Slot, e = ⟨[.bor 0, .own (vv (.int (costTo ps ls gl i))), j2, j3, j4, j5], [task C ps ls gl]⟩) ⟨.own .hole, .own .hole, .own .hole, .own .hole, by simp [costTo]⟩ (fun i hi e ⟨j2, j3, j4, j5, he⟩ => by
    subst he
    have hi' : i < gl.length := by simpa using hi
    have hr : (List.range gl.length)[i] = i := by simp
    rw [hr]
    have hc := e_chosen (C := C) (ps := ps) (ls := ls) hi'
    have hle := chosen_le (ps := ps) (ls := ls) (gl := gl) i
    have hk : costTo ps ls gl (i + 1) = costTo ps ls gl i - price ps (kept ps ls gl i) := by
      unfold costTo
      rw [List.range_succ, List.map_append, List.sum_append]
      simp
      omega
    have hg : gl[i]?.getD [] = gl.getD i [] := by simp
    have hm : ∀ b ∈ gl.getD i [], b < ps.length := fun b hb => by
      rw [getD_lt hi'] at hb
      exact G.g.mem (List.getElem_mem hi') hb
    have hln : (gl.getD i []).length ≤ 12 := by
      rw [getD_lt hi']
      have := G.g.len (List.getElem_mem hi'); omega
    rw [hg, hk]
    have hpr := e_price_in (C := C) ps ls (kept ps ls gl i) (fun b hb => hm b (seg_mem hb)) (by unfold kept; have := @seg_len (gl.getD i []) (chosen ps ls gl i).1 (chosen ps ls gl i).2; omega)
    have hsl := sl_seg (gl.getD i []) hle.1 hle.2
    unfold kept at hpr ⊢
    generalize gl.getD i [] = lot at *
    simp [def0, cRet, cAndV, cNotV, cOp, cC, cV, cChain, cOrV, cOrT, cCall, cIfS, cNx, cBad, cSeq, cSet, cB, cAnd, cOr, cNot, cIf, cFz, cExpr, cMov, cYes, RE.bind, RE.toS, RS.then, evA, evP, Sm.Env.get, Sm.Env.put, Sm.Env.asg, getS, getM, startS, isCopy, lendC, backC, M.isHole, M.fz, M.view, Slot.cont, gN, gT, gsC, gsN, Sm.Env.wipe, Sm.Env.rest, wipeS, restS, cSl, asI, isLst, gApp, cMut, cPar, cPar3, cAsgG, LcOk, ForOk, RetOk, LcR, cLc, iSeq, itemsM, seqOf, gTupM, gLstM, valsOf, isi_int, isi_bool, isi_tup, isi_lst, len_tup, len_list, len_lst, g_sub, g_neg, g_add, g_lt, g_gt, g_le, g_ge, eq_int, ne_int, isN_int, isN_none, notN_int, notN_none, isN_tup, notN_tup, truD, cMeth, ok_chosen, hc, cAug, cFld, f_wood, hsl, hpr])
  simp [def0, cRet, cAndV, cNotV, cOp, cC, cV, cChain, cOrV, cOrT, cCall, cIfS, cNx, cBad, cSeq, cSet, cB, cAnd, cOr, cNot, cIf, cFz, cExpr, cMov, cYes, RE.bind, RE.toS, RS.then, evA, evP, Sm.Env.get, Sm.Env.put, Sm.Env.asg, getS, getM, startS, isCopy, lendC, backC, M.isHole, M.fz, M.view, Slot.cont, gN, gT, gsC, gsN, Sm.Env.wipe, Sm.Env.rest, wipeS, restS, cSl, asI, isLst, gApp, cMut, cPar, cPar3, cAsgG, LcOk, ForOk, RetOk, LcR, cLc, iSeq, itemsM, seqOf, gTupM, gLstM, valsOf, isi_int, isi_bool, isi_tup, isi_lst, len_tup, len_list, len_lst, g_sub, g_neg, g_add, g_lt, g_gt, g_le, g_ge, eq_int, ne_int, isN_int, isN_none, notN_int, notN_none, isN_tup, notN_tup, truD, costOf]
/-- a deed: book, lot, to the front or not -/
abbrev Deed := Nat × Nat × Bool
abbrev eDeed (d : Deed) : PyData := .tuple [nI d.1, nI d.2.1, .str (if d.2.2 then "first" else "last")]
def wayAt (ps : List (Option Int)) (ls gl : List (List Nat)) (n : Nat) : List Deed :=
  (((gl.getD n []).take (chosen ps ls gl n).1).reverse.map fun b => (b, n, true)) ++ ((gl.getD n []).drop (chosen ps ls gl n).2).map fun b => (b, n, false)
def wayOf (ps : List (Option Int)) (ls gl : List (List Nat)) : List Deed := (List.range gl.length).flatMap (wayAt ps ls gl)
theorem rev_tup {l : List PyData} : gRev [.val (.tuple l)] = some (.val (.tuple l.reverse)) := rfl
theorem wayAt_len {ps ls gl} (G : Good ps ls gl) {n : Nat} (hn : n < gl.length) : (wayAt ps ls gl n).length ≤ 24 := by
  have h := G.g.len (List.getElem_mem hn)
  have := G.pl
  unfold wayAt
  rw [getD_lt hn, List.length_append, List.length_map, List.length_map, List.length_reverse, List.length_take, List.length_drop]
  omega
theorem way_len {ps ls gl} (G : Good ps ls gl) : ∀ k, k ≤ gl.length → ((List.range k).flatMap (wayAt ps ls gl)).length ≤ k * 24 := by
  intro k
  induction k with
  | zero => simp
  | succ k ih =>
    intro hk
    rw [List.range_succ, List.flatMap_append, List.length_append, List.flatMap_singleton]
    have := ih (by omega)
    have := wayAt_len G (n := k) (by omega)
    omega
theorem e_way {ps ls gl} (G : Good ps ls gl) : d_Task_way C [task C ps ls gl] = .ok (.val (.list ((wayOf ps ls gl).map eDeed))) [task C ps ls gl] := by
  have hp := G.pl
  unfold d_Task_way b_Task_way
  simp [def0, cRet, cAndV, cNotV, cOp, cC, cV, cChain, cOrV, cOrT, cCall, cIfS, cNx, cBad, cSeq, cSet, cB, cAnd, cOr, cNot, cIf, cFz, cExpr, cMov, cYes, RE.bind, RE.toS, RS.then, evA, evP, Sm.Env.get, Sm.Env.put, Sm.Env.asg, getS, getM, startS, isCopy, lendC, backC, M.isHole, M.fz, M.view, Slot.cont, gN, gT, gsC, gsN, Sm.Env.wipe, Sm.Env.rest, wipeS, restS, cSl, asI, isLst, gApp, cMut, cPar, cPar3, cAsgG, LcOk, ForOk, RetOk, LcR, cLc, iSeq, itemsM, seqOf, gTupM, gLstM, valsOf, isi_int, isi_bool, isi_tup, isi_lst, len_tup, len_list, len_lst, g_sub, g_neg, g_add, g_lt, g_gt, g_le, g_ge, eq_int, ne_int, isN_int, isN_none, notN_int, notN_none, isN_tup, notN_tup, truD, cFld, cFor, f_wanted, enum_map, gl_zip, Function.comp_def]
  generalize hF : forD _ _ _ _ = F
  obtain ⟨e', rfl, j2, j3, j4, j5, j6, rfl⟩ := for_at hF (fun i e => ∃ j2 j3 j4 j5 j6 : Sm.Slot, e = ⟨[.bor 0, .own (.lst (((List.range i).flatMap (wayAt ps ls gl)).map eDeed)), j2, j3, j4, j5, j6], [task C ps ls gl]⟩) ⟨.own .hole, .own .hole, .own .hole, .own .hole, .own .hole, by simp⟩ (fun i hi e ⟨j2, j3, j4, j5, j6, he⟩ => by
    subst he
    have hi' : i < gl.length := by simpa using hi
    have hr : (List.range gl.length)[i] = i := by simp
    rw [hr]
    have hc := e_chosen (C := C) (ps := ps) (ls := ls) hi'
    have hle := chosen_le (ps := ps) (ls := ls) (gl := gl) i
    have hg : gl[i]?.getD [] = gl.getD i [] := by simp
    have hln : (gl.getD i []).length ≤ 12 := by
      rw [getD_lt hi']
      have := G.g.len (List.getElem_mem hi'); omega
    rw [hg, List.range_succ, List.flatMap_append, List.flatMap_singleton]
    have hw : wayAt ps ls gl i = (((gl.getD i []).take (chosen ps ls gl i).1).reverse.map fun b => (b, i, true)) ++ ((gl.getD i []).drop (chosen ps ls gl i).2).map fun b => (b, i, false) := rfl
    rw [hw]
    have hwl := way_len G i (by omega)
    have hgl : gl.length ≤ 5 := by have := G.e; have := G.l.le; omega
    generalize gl.getD i [] = lot at *
    generalize chosen ps ls gl i = q at *
    generalize (List.range i).flatMap (wayAt ps ls gl) = acc at *
    have s1 : gSl none (some (q.1 : Int)) [.val (eLot lot)] = some (.val (eLot (lot.take q.1))) := by
      rw [sl_to (by simp; omega), ← List.map_take]
    have s2 : gSl (some (q.2 : Int)) none [.val (eLot lot)] = some (.val (eLot (lot.drop q.2))) := by
      rw [sl_from (by simp; omega), ← List.map_drop]
    have s3 : gRev [.val (eLot (lot.take q.1))] = some (.val (eLot (lot.take q.1).reverse)) := by
      rw [rev_tup, ← List.map_reverse]
    have z1 : acc.length + (lot.take q.1).reverse.length ≤ 16777216 := by simp; omega
    have z2 : acc.length + (lot.take q.1).reverse.length + (lot.drop q.2).length ≤ 16777216 := by simp; omega
    have hz1 : (lot.take q.1).reverse.length ≤ 16777216 := by simp; omega
    have hz2 : (lot.drop q.2).length ≤ 16777216 := by simp; omega
    generalize lot.take q.1 = T at *
    generalize T.reverse = A at *
    generalize lot.drop q.2 = B at *
    simp [def0, cRet, cAndV, cNotV, cOp, cC, cV, cChain, cOrV, cOrT, cCall, cIfS, cNx, cBad, cSeq, cSet, cB, cAnd, cOr, cNot, cIf, cFz, cExpr, cMov, cYes, RE.bind, RE.toS, RS.then, evA, evP, Sm.Env.get, Sm.Env.put, Sm.Env.asg, getS, getM, startS, isCopy, lendC, backC, M.isHole, M.fz, M.view, Slot.cont, gN, gT, gsC, gsN, Sm.Env.wipe, Sm.Env.rest, wipeS, restS, cSl, asI, isLst, gApp, cMut, cPar, cPar3, cAsgG, LcOk, ForOk, RetOk, LcR, cLc, iSeq, itemsM, seqOf, gTupM, gLstM, valsOf, isi_int, isi_bool, isi_tup, isi_lst, len_tup, len_list, len_lst, g_sub, g_neg, g_add, g_lt, g_gt, g_le, g_ge, eq_int, ne_int, isN_int, isN_none, notN_int, notN_none, isN_tup, notN_tup, truD, cMeth, ok_chosen, hc, cRev, s1, g_neg, s3]
    rw [lc_ofY (fun b => eDeed (b, i, true)) (fun b hb => by simp [def0, cRet, cAndV, cNotV, cOp, cC, cV, cChain, cOrV, cOrT, cCall, cIfS, cNx, cBad, cSeq, cSet, cB, cAnd, cOr, cNot, cIf, cFz, cExpr, cMov, cYes, RE.bind, RE.toS, RS.then, evA, evP, Sm.Env.get, Sm.Env.put, Sm.Env.asg, getS, getM, startS, isCopy, lendC, backC, M.isHole, M.fz, M.view, Slot.cont, gN, gT, gsC, gsN, Sm.Env.wipe, Sm.Env.rest, wipeS, restS, cSl, asI, isLst, gApp, cMut, cPar, cPar3, cAsgG, LcOk, ForOk, RetOk, LcR, cLc, iSeq, itemsM, seqOf, gTupM, gLstM, valsOf, isi_int, isi_bool, isi_tup, isi_lst, len_tup, len_list, len_lst, g_sub, g_neg, g_add, g_lt, g_gt, g_le, g_ge, eq_int, ne_int, isN_int, isN_none, notN_int, notN_none, isN_tup, notN_tup, truD]) hz1]
    simp [def0, cRet, cAndV, cNotV, cOp, cC, cV, cChain, cOrV, cOrT, cCall, cIfS, cNx, cBad, cSeq, cSet, cB, cAnd, cOr, cNot, cIf, cFz, cExpr, cMov, cYes, RE.bind, RE.toS, RS.then, evA, evP, Sm.Env.get, Sm.Env.put, Sm.Env.asg, getS, getM, startS, isCopy, lendC, backC, M.isHole, M.fz, M.view, Slot.cont, gN, gT, gsC, gsN, Sm.Env.wipe, Sm.Env.rest, wipeS, restS, cSl, asI, isLst, gApp, cMut, cPar, cPar3, cAsgG, LcOk, ForOk, RetOk, LcR, cLc, iSeq, itemsM, seqOf, gTupM, gLstM, valsOf, isi_int, isi_bool, isi_tup, isi_lst, len_tup, len_list, len_lst, g_sub, g_neg, g_add, g_lt, g_gt, g_le, g_ge, eq_int, ne_int, isN_int, isN_none, notN_int, notN_none, isN_tup, notN_tup, truD, gExt, z1, s2]
    rw [lc_ofY (fun b => eDeed (b, i, false)) (fun b hb => by simp [def0, cRet, cAndV, cNotV, cOp, cC, cV, cChain, cOrV, cOrT, cCall, cIfS, cNx, cBad, cSeq, cSet, cB, cAnd, cOr, cNot, cIf, cFz, cExpr, cMov, cYes, RE.bind, RE.toS, RS.then, evA, evP, Sm.Env.get, Sm.Env.put, Sm.Env.asg, getS, getM, startS, isCopy, lendC, backC, M.isHole, M.fz, M.view, Slot.cont, gN, gT, gsC, gsN, Sm.Env.wipe, Sm.Env.rest, wipeS, restS, cSl, asI, isLst, gApp, cMut, cPar, cPar3, cAsgG, LcOk, ForOk, RetOk, LcR, cLc, iSeq, itemsM, seqOf, gTupM, gLstM, valsOf, isi_int, isi_bool, isi_tup, isi_lst, len_tup, len_list, len_lst, g_sub, g_neg, g_add, g_lt, g_gt, g_le, g_ge, eq_int, ne_int, isN_int, isN_none, notN_int, notN_none, isN_tup, notN_tup, truD]) hz2]
    have z2' : acc.length + (A.length + B.length) ≤ 16777216 := by omega
    simp [def0, cRet, cAndV, cNotV, cOp, cC, cV, cChain, cOrV, cOrT, cCall, cIfS, cNx, cBad, cSeq, cSet, cB, cAnd, cOr, cNot, cIf, cFz, cExpr, cMov, cYes, RE.bind, RE.toS, RS.then, evA, evP, Sm.Env.get, Sm.Env.put, Sm.Env.asg, getS, getM, startS, isCopy, lendC, backC, M.isHole, M.fz, M.view, Slot.cont, gN, gT, gsC, gsN, Sm.Env.wipe, Sm.Env.rest, wipeS, restS, cSl, asI, isLst, gApp, cMut, cPar, cPar3, cAsgG, LcOk, ForOk, RetOk, LcR, cLc, iSeq, itemsM, seqOf, gTupM, gLstM, valsOf, isi_int, isi_bool, isi_tup, isi_lst, len_tup, len_list, len_lst, g_sub, g_neg, g_add, g_lt, g_gt, g_le, g_ge, eq_int, ne_int, isN_int, isN_none, notN_int, notN_none, isN_tup, notN_tup, truD, gExt, z1, z2, z2', Function.comp_def])
  simp [def0, cRet, cAndV, cNotV, cOp, cC, cV, cChain, cOrV, cOrT, cCall, cIfS, cNx, cBad, cSeq, cSet, cB, cAnd, cOr, cNot, cIf, cFz, cExpr, cMov, cYes, RE.bind, RE.toS, RS.then, evA, evP, Sm.Env.get, Sm.Env.put, Sm.Env.asg, getS, getM, startS, isCopy, lendC, backC, M.isHole, M.fz, M.view, Slot.cont, gN, gT, gsC, gsN, Sm.Env.wipe, Sm.Env.rest, wipeS, restS, cSl, asI, isLst, gApp, cMut, cPar, cPar3, cAsgG, LcOk, ForOk, RetOk, LcR, cLc, iSeq, itemsM, seqOf, gTupM, gLstM, valsOf, isi_int, isi_bool, isi_tup, isi_lst, len_tup, len_list, len_lst, g_sub, g_neg, g_add, g_lt, g_gt, g_le, g_ge, eq_int, ne_int, isN_int, isN_none, notN_int, notN_none, isN_tup, notN_tup, truD, wayOf]
end
end Wk

namespace Wk
noncomputable section
open PySem PySem.Spec Sm Mp
variable {C : Str → Addr}
/-! ### how many ways -/
def sidesOf (rs : List (Nat × Nat)) (m : Nat) : List (Nat × Nat) :=
  if rs = [] then (List.range (m + 1)).map fun f => (f, m - f) else rs.map fun q => (q.1, m - q.2)
def sides (ps : List (Option Int)) (ls gl : List (List Nat)) (n : Nat) : List (Nat × Nat) := sidesOf (best ps (ls.getD n []) (gl.getD n [])) (gl.getD n []).length
theorem ix_wanted (gl : List (List Nat)) {n : Nat} (h : n < gl.length) : gIx [.val (eLots gl), .val (nI n)] = some (.val (eLot (gl.getD n []))) := by
  rw [ix_lots gl h, getD_lt h]
theorem e_sides {ps ls gl} (G : Good ps ls gl) {n : Nat} (hn : n < gl.length) : d_Task_sides C [task C ps ls gl, .val (nI n)] = .ok (.val (ePrs (sides ps ls gl n))) [task C ps ls gl, .val (nI n)] := by
  have hc : cl 60 (ePrs (best ps (ls.getD n []) (gl.getD n []))) = true := cl_prs _ 58
  have hx := ix_runs (ps := ps) (ls := ls) hn
  have hw := ix_wanted gl hn
  have hln : (gl.getD n []).length ≤ 12 := by
    rw [getD_lt hn]
    have := G.g.len (List.getElem_mem hn); have := G.pl; omega
  have hb : ∀ q ∈ best ps (ls.getD n []) (gl.getD n []), q.2 ≤ (gl.getD n []).length := fun q hq => (hold_mem (best_mem hq)).2
  have hbl : (best ps (ls.getD n []) (gl.getD n [])).length ≤ 10000 := Nat.le_trans (List.length_filter_le _ _) (hold_length ps _ _ (by omega))
  unfold d_Task_sides b_Task_sides sides sidesOf
  generalize best ps (ls.getD n []) (gl.getD n []) = l at *
  generalize gl.getD n [] = lot at *
  by_cases he : l = []
  · subst he
    have h1 : int1 [.val (.int ((lot.length : Int) + 1))] = some ((lot.length : Int) + 1) := int1_nat (n := lot.length + 1) (by omega)
    have h2 : ((lot.length : Int) + 1).toNat = lot.length + 1 := by omega
    simp [def0, cRet, cAndV, cNotV, cOp, cC, cV, cChain, cOrV, cOrT, cCall, cIfS, cNx, cBad, cSeq, cSet, cB, cAnd, cOr, cNot, cIf, cFz, cExpr, cMov, cYes, RE.bind, RE.toS, RS.then, evA, evP, Sm.Env.get, Sm.Env.put, Sm.Env.asg, getS, getM, startS, isCopy, lendC, backC, M.isHole, M.fz, M.view, Slot.cont, gN, gT, gsC, gsN, Sm.Env.wipe, Sm.Env.rest, wipeS, restS, cSl, asI, isLst, gApp, cMut, cPar, cPar3, cAsgG, LcOk, ForOk, RetOk, LcR, cLc, iSeq, itemsM, seqOf, gTupM, gLstM, valsOf, isi_int, isi_bool, isi_tup, isi_lst, len_tup, len_list, len_lst, g_sub, g_neg, g_add, g_lt, g_gt, g_le, g_ge, eq_int, ne_int, isN_int, isN_none, notN_int, notN_none, isN_tup, notN_tup, truD, cFld, f_wanted, hw, f_runs, hx, eq_nilP, iRng1D, h1, h2, rng0_map]
    rw [lc_ofY (fun f => ePr (f, lot.length - f)) (fun f hf => by
      have hf' : f ≤ lot.length := by have := List.mem_range.mp hf; omega
      have e : ((lot.length - f : Nat) : Int) = (lot.length : Int) - (f : Int) := by omega
      simp [def0, cRet, cAndV, cNotV, cOp, cC, cV, cChain, cOrV, cOrT, cCall, cIfS, cNx, cBad, cSeq, cSet, cB, cAnd, cOr, cNot, cIf, cFz, cExpr, cMov, cYes, RE.bind, RE.toS, RS.then, evA, evP, Sm.Env.get, Sm.Env.put, Sm.Env.asg, getS, getM, startS, isCopy, lendC, backC, M.isHole, M.fz, M.view, Slot.cont, gN, gT, gsC, gsN, Sm.Env.wipe, Sm.Env.rest, wipeS, restS, cSl, asI, isLst, gApp, cMut, cPar, cPar3, cAsgG, LcOk, ForOk, RetOk, LcR, cLc, iSeq, itemsM, seqOf, gTupM, gLstM, valsOf, isi_int, isi_bool, isi_tup, isi_lst, len_tup, len_list, len_lst, g_sub, g_neg, g_add, g_lt, g_gt, g_le, g_ge, eq_int, ne_int, isN_int, isN_none, notN_int, notN_none, isN_tup, notN_tup, truD, e]) (by simp; omega)]
    simp [def0, cRet, cAndV, cNotV, cOp, cC, cV, cChain, cOrV, cOrT, cCall, cIfS, cNx, cBad, cSeq, cSet, cB, cAnd, cOr, cNot, cIf, cFz, cExpr, cMov, cYes, RE.bind, RE.toS, RS.then, evA, evP, Sm.Env.get, Sm.Env.put, Sm.Env.asg, getS, getM, startS, isCopy, lendC, backC, M.isHole, M.fz, M.view, Slot.cont, gN, gT, gsC, gsN, Sm.Env.wipe, Sm.Env.rest, wipeS, restS, cSl, asI, isLst, gApp, cMut, cPar, cPar3, cAsgG, LcOk, ForOk, RetOk, LcR, cLc, iSeq, itemsM, seqOf, gTupM, gLstM, valsOf, isi_int, isi_bool, isi_tup, isi_lst, len_tup, len_list, len_lst, g_sub, g_neg, g_add, g_lt, g_gt, g_le, g_ge, eq_int, ne_int, isN_int, isN_none, notN_int, notN_none, isN_tup, notN_tup, truD, Function.comp_def]
  · simp [def0, cRet, cAndV, cNotV, cOp, cC, cV, cChain, cOrV, cOrT, cCall, cIfS, cNx, cBad, cSeq, cSet, cB, cAnd, cOr, cNot, cIf, cFz, cExpr, cMov, cYes, RE.bind, RE.toS, RS.then, evA, evP, Sm.Env.get, Sm.Env.put, Sm.Env.asg, getS, getM, startS, isCopy, lendC, backC, M.isHole, M.fz, M.view, Slot.cont, gN, gT, gsC, gsN, Sm.Env.wipe, Sm.Env.rest, wipeS, restS, cSl, asI, isLst, gApp, cMut, cPar, cPar3, cAsgG, LcOk, ForOk, RetOk, LcR, cLc, iSeq, itemsM, seqOf, gTupM, gLstM, valsOf, isi_int, isi_bool, isi_tup, isi_lst, len_tup, len_list, len_lst, g_sub, g_neg, g_add, g_lt, g_gt, g_le, g_ge, eq_int, ne_int, isN_int, isN_none, notN_int, notN_none, isN_tup, notN_tup, truD, cFld, f_wanted, hw, f_runs, hx, eq_nilL hc, he]
    rw [lc_ofY (fun q => ePr (q.1, lot.length - q.2)) (fun q hq => by
      have hf' := hb q hq
      have e : ((lot.length - q.2 : Nat) : Int) = (lot.length : Int) - (q.2 : Int) := by omega
      simp [def0, cRet, cAndV, cNotV, cOp, cC, cV, cChain, cOrV, cOrT, cCall, cIfS, cNx, cBad, cSeq, cSet, cB, cAnd, cOr, cNot, cIf, cFz, cExpr, cMov, cYes, RE.bind, RE.toS, RS.then, evA, evP, Sm.Env.get, Sm.Env.put, Sm.Env.asg, getS, getM, startS, isCopy, lendC, backC, M.isHole, M.fz, M.view, Slot.cont, gN, gT, gsC, gsN, Sm.Env.wipe, Sm.Env.rest, wipeS, restS, cSl, asI, isLst, gApp, cMut, cPar, cPar3, cAsgG, LcOk, ForOk, RetOk, LcR, cLc, iSeq, itemsM, seqOf, gTupM, gLstM, valsOf, isi_int, isi_bool, isi_tup, isi_lst, len_tup, len_list, len_lst, g_sub, g_neg, g_add, g_lt, g_gt, g_le, g_ge, eq_int, ne_int, isN_int, isN_none, notN_int, notN_none, isN_tup, notN_tup, truD, e]) (by omega)]
    simp [def0, cRet, cAndV, cNotV, cOp, cC, cV, cChain, cOrV, cOrT, cCall, cIfS, cNx, cBad, cSeq, cSet, cB, cAnd, cOr, cNot, cIf, cFz, cExpr, cMov, cYes, RE.bind, RE.toS, RS.then, evA, evP, Sm.Env.get, Sm.Env.put, Sm.Env.asg, getS, getM, startS, isCopy, lendC, backC, M.isHole, M.fz, M.view, Slot.cont, gN, gT, gsC, gsN, Sm.Env.wipe, Sm.Env.rest, wipeS, restS, cSl, asI, isLst, gApp, cMut, cPar, cPar3, cAsgG, LcOk, ForOk, RetOk, LcR, cLc, iSeq, itemsM, seqOf, gTupM, gLstM, valsOf, isi_int, isi_bool, isi_tup, isi_lst, len_tup, len_list, len_lst, g_sub, g_neg, g_add, g_lt, g_gt, g_le, g_ge, eq_int, ne_int, isN_int, isN_none, notN_int, notN_none, isN_tup, notN_tup, truD, Function.comp_def, he]
/-- the choices of k of n -/
def ch : Nat → Nat → Nat
  | _, 0 => 1
  | 0, _ + 1 => 0
  | n + 1, k + 1 => ch n k + ch n (k + 1)
theorem ch_zero : ∀ n, ch n 0 = 1
  | 0 => rfl
  | _ + 1 => rfl
theorem ch_big : ∀ n k, n < k → ch n k = 0
  | 0, 0, h => by omega
  | 0, k + 1, _ => rfl
  | n + 1, 0, h => by omega
  | n + 1, k + 1, h => by
    show ch n k + ch n (k + 1) = 0
    rw [ch_big n k (by omega), ch_big n (k + 1) (by omega)]
theorem ch_abs : ∀ n k, (k + 1) * ch (n + 1) (k + 1) = (n + 1) * ch n k
  | 0, 0 => rfl
  | 0, k + 1 => by
    show (k + 1 + 1) * (ch 0 (k + 1) + ch 0 (k + 1 + 1)) = 1 * ch 0 (k + 1)
    rw [ch_big 0 (k + 1) (by omega), ch_big 0 (k + 1 + 1) (by omega)]
    rfl
  | n + 1, 0 => by
    have := ch_abs n 0
    show (0 + 1) * (ch (n + 1) 0 + ch (n + 1) 1) = (n + 1 + 1) * ch (n + 1) 0
    simp only [ch_zero, Nat.zero_add, Nat.one_mul, Nat.mul_one] at this ⊢
    omega
  | n + 1, k + 1 => by
    have h1 := ch_abs n k
    have h2 := ch_abs n (k + 1)
    show (k + 1 + 1) * (ch (n + 1) (k + 1) + ch (n + 1) (k + 1 + 1)) = (n + 1 + 1) * ch (n + 1) (k + 1)
    have e : ch (n + 1) (k + 1) = ch n k + ch n (k + 1) := rfl
    rw [Nat.mul_add, h2]
    have : (k + 1 + 1) * ch (n + 1) (k + 1) = (k + 1) * ch (n + 1) (k + 1) + ch (n + 1) (k + 1) := by rw [Nat.add_mul (k + 1) 1]; omega
    rw [this, h1]
    have h3 : (n + 1 + 1) * ch (n + 1) (k + 1) = (n + 1) * ch (n + 1) (k + 1) + ch (n + 1) (k + 1) := by rw [Nat.add_mul (n + 1) 1]; omega
    rw [h3, e, Nat.mul_add]
    omega
theorem ch_le : ∀ n k, ch n k ≤ 2 ^ n
  | 0, 0 => by decide
  | 0, _ + 1 => Nat.zero_le _
  | n + 1, 0 => Nat.one_le_two_pow
  | n + 1, k + 1 => by
    have h1 := ch_le n k
    have h2 := ch_le n (k + 1)
    show ch n k + ch n (k + 1) ≤ 2 ^ (n + 1)
    rw [Nat.pow_succ]; omega
/-- one + other in a row, other of them -/
def blend (a b : Nat) : Nat := ch (a + b) b
theorem e_blended (a b : Nat) (ha : a ≤ 1000) (hb : b ≤ 1000) : d_blended C [.val (nI a), .val (nI b)] = .ok (.val (nI (blend a b))) [.val (nI a), .val (nI b)] := by
  unfold d_blended b_blended
  simp [def0, cRet, cAndV, cNotV, cOp, cC, cV, cChain, cOrV, cOrT, cCall, cIfS, cNx, cBad, cSeq, cSet, cB, cAnd, cOr, cNot, cIf, cFz, cExpr, cMov, cYes, RE.bind, RE.toS, RS.then, evA, evP, Sm.Env.get, Sm.Env.put, Sm.Env.asg, getS, getM, startS, isCopy, lendC, backC, M.isHole, M.fz, M.view, Slot.cont, gN, gT, gsC, gsN, Sm.Env.wipe, Sm.Env.rest, wipeS, restS, cSl, asI, isLst, gApp, cMut, cPar, cPar3, cAsgG, LcOk, ForOk, RetOk, LcR, cLc, iSeq, itemsM, seqOf, gTupM, gLstM, valsOf, isi_int, isi_bool, isi_tup, isi_lst, len_tup, len_list, len_lst, g_sub, g_neg, g_add, g_lt, g_gt, g_le, g_ge, eq_int, ne_int, isN_int, isN_none, notN_int, notN_none, isN_tup, notN_tup, truD, cFor, iRng1D, int1_nat (n := b) (by omega), rng0_map]
  generalize hF : forD _ _ _ _ = F
  obtain ⟨e', rfl, j, rfl⟩ := for_at hF (fun i e => ∃ j : Sm.Slot, e = ⟨[.own (vv (nI a)), .own (vv (nI b)), .own (vv (nI (blend a i))), j], [vv (nI a), vv (nI b)]⟩) ⟨.own .hole, by simp [blend, ch_zero]⟩ (fun i hi e ⟨j, he⟩ => by
    subst he
    have hi' : i < b := by simpa using hi
    have hr : (List.range b)[i] = i := by simp
    rw [hr]
    have h1 : ((a : Int) + (i : Int) + 1).natAbs < 9223372036854775808 := by omega
    have h2 : (0 : Int) < (i : Int) + 1 ∧ ((i : Int) + 1).natAbs < 1073741824 := by omega
    have h3 : (blend a i : Int) * ((a : Int) + (i : Int) + 1) / ((i : Int) + 1) = (blend a (i + 1) : Int) := by
      have := ch_abs (a + i) i
      have e : (blend a i : Int) * ((a : Int) + (i : Int) + 1) = (blend a (i + 1) : Int) * ((i : Int) + 1) := by
        have e2 : blend a (i + 1) = ch (a + i + 1) (i + 1) := rfl
        have e3 : blend a i = ch (a + i) i := rfl
        rw [e2, e3]
        have : ch (a + i) i * (a + i + 1) = ch (a + i + 1) (i + 1) * (i + 1) := by
          rw [Nat.mul_comm, ← this, Nat.mul_comm]
        exact_mod_cast this
      rw [e, Int.mul_ediv_cancel _ (by omega)]
    simp [def0, cRet, cAndV, cNotV, cOp, cC, cV, cChain, cOrV, cOrT, cCall, cIfS, cNx, cBad, cSeq, cSet, cB, cAnd, cOr, cNot, cIf, cFz, cExpr, cMov, cYes, RE.bind, RE.toS, RS.then, evA, evP, Sm.Env.get, Sm.Env.put, Sm.Env.asg, getS, getM, startS, isCopy, lendC, backC, M.isHole, M.fz, M.view, Slot.cont, gN, gT, gsC, gsN, Sm.Env.wipe, Sm.Env.rest, wipeS, restS, cSl, asI, isLst, gApp, cMut, cPar, cPar3, cAsgG, LcOk, ForOk, RetOk, LcR, cLc, iSeq, itemsM, seqOf, gTupM, gLstM, valsOf, isi_int, isi_bool, isi_tup, isi_lst, len_tup, len_list, len_lst, g_sub, g_neg, g_add, g_lt, g_gt, g_le, g_ge, eq_int, ne_int, isN_int, isN_none, notN_int, notN_none, isN_tup, notN_tup, truD, g_mulR h1, g_div h2, h3])
  simp [def0, cRet, cAndV, cNotV, cOp, cC, cV, cChain, cOrV, cOrT, cCall, cIfS, cNx, cBad, cSeq, cSet, cB, cAnd, cOr, cNot, cIf, cFz, cExpr, cMov, cYes, RE.bind, RE.toS, RS.then, evA, evP, Sm.Env.get, Sm.Env.put, Sm.Env.asg, getS, getM, startS, isCopy, lendC, backC, M.isHole, M.fz, M.view, Slot.cont, gN, gT, gsC, gsN, Sm.Env.wipe, Sm.Env.rest, wipeS, restS, cSl, asI, isLst, gApp, cMut, cPar, cPar3, cAsgG, LcOk, ForOk, RetOk, LcR, cLc, iSeq, itemsM, seqOf, gTupM, gLstM, valsOf, isi_int, isi_bool, isi_tup, isi_lst, len_tup, len_list, len_lst, g_sub, g_neg, g_add, g_lt, g_gt, g_le, g_ge, eq_int, ne_int, isN_int, isN_none, notN_int, notN_none, isN_tup, notN_tup, truD]
/-! the levels: a list of (many, count), the manies apart -/
abbrev Lv := List (Nat × Int)
abbrev eLv (l : Lv) : KVs := l.map fun p => (.inl (p.1 : Int), .int p.2)
def getL (l : Lv) (k : Nat) : Int := match l.find? fun p => decide (p.1 = k) with
  | some p => p.2
  | none => 0
def putL (l : Lv) (k : Nat) (c : Int) : Lv := if l.any fun p => decide (p.1 = k) then l.map fun p => if p.1 = k then (p.1, c) else p else l ++ [(k, c)]
def sumF (f : Nat → Int) (l : Lv) : Int := (l.map fun p => p.2 * f p.1).sum
theorem valD_eLv (k : Nat) : ∀ l : Lv, (valD (eLv l) (.inl (k : Int))).getD (.int 0) = .int (getL l k)
  | [] => rfl
  | p :: l => by
    have := valD_eLv k l
    by_cases h : p.1 = k
    · simp [valD, getL, List.find?_cons, h]
    · have h1 : ¬ ((p.1 : Int) = (k : Int)) := by omega
      have e1 : valD (eLv (p :: l)) (.inl (k : Int)) = valD (eLv l) (.inl (k : Int)) := by simp [valD, List.find?_cons, h1]
      have e2 : getL (p :: l) k = getL l k := by simp [getL, List.find?_cons, h]
      rw [e1, e2, this]
theorem any_eLv (k : Nat) (l : Lv) : ((eLv l).any fun kv => decide (kv.1 = .inl (k : Int))) = l.any fun p => decide (p.1 = k) := by
  rw [List.any_map]
  congr 1
  funext p
  have : ((Sum.inl (p.1 : Int) : L2.Key) = .inl (k : Int)) ↔ p.1 = k := by
    constructor
    · intro z
      have : (p.1 : Int) = (k : Int) := by injection z
      omega
    · intro z; rw [z]
  simp [this]
theorem putD_eLv (k : Nat) (c : Int) (l : Lv) : putD (eLv l) (.inl (k : Int)) (.int c) = eLv (putL l k c) := by
  unfold putD putL
  rw [any_eLv]
  by_cases h : (l.any fun p => decide (p.1 = k)) = true
  · rw [if_pos h, if_pos h]
    simp only [eLv, List.map_map]
    apply List.map_congr_left
    intro p _
    by_cases hp : p.1 = k
    · simp [hp]
    · have : ¬ ((p.1 : Int) = (k : Int)) := by omega
      simp [hp, this]
  · rw [if_neg h, if_neg h]
    simp [eLv]
theorem putL_keys {l : Lv} {k : Nat} {c : Int} (h : (l.map (·.1)).Nodup) : ((putL l k c).map (·.1)).Nodup ∧ ∀ x, x ∈ (putL l k c).map (·.1) → x ∈ l.map (·.1) ∨ x = k := by
  unfold putL
  split
  · have : (l.map fun p => if p.1 = k then (p.1, c) else p).map (·.1) = l.map (·.1) := by
      rw [List.map_map]
      apply List.map_congr_left
      intro p _
      by_cases hp : p.1 = k <;> simp [hp]
    rw [this]
    exact ⟨h, fun x hx => .inl hx⟩
  · rename_i hn
    rw [List.map_append]
    refine ⟨List.nodup_append.mpr ⟨h, by simp, ?_⟩, fun x hx => ?_⟩
    · intro x hx y hy
      have : y = k := by simpa using hy
      subst this
      intro e
      subst e
      apply hn
      obtain ⟨p, hp, e⟩ := List.mem_map.mp hx
      exact List.any_eq_true.mpr ⟨p, hp, by simpa using e⟩
    · rcases List.mem_append.mp hx with z | z
      · exact .inl z
      · exact .inr (by simpa using z)
theorem sum_upd (f : Nat → Int) (k : Nat) (c : Int) : ∀ l : Lv, (l.map (·.1)).Nodup → (l.any fun p => decide (p.1 = k)) = true → sumF f (l.map fun p => if p.1 = k then (p.1, c) else p) = sumF f l + (c - getL l k) * f k
  | [], _, h => by cases h
  | p :: l, hn, h => by
    have hn' := List.nodup_cons.mp (by simpa using hn : (p.1 :: l.map (·.1)).Nodup)
    by_cases hp : p.1 = k
    · have hl : (l.map fun p => if p.1 = k then (p.1, c) else p) = l := by
        conv => rhs; rw [← List.map_id l]
        apply List.map_congr_left
        intro q hq
        have : ¬ q.1 = k := fun z => hn'.1 (List.mem_map.mpr ⟨q, hq, by rw [z, hp]⟩)
        simp [this]
      have e2 : getL (p :: l) k = p.2 := by simp [getL, List.find?_cons, hp]
      rw [List.map_cons, if_pos hp, hl, e2]
      simp only [sumF, List.map_cons, List.sum_cons, hp]
      rw [Int.sub_mul]
      omega
    · have h' : (l.any fun p => decide (p.1 = k)) = true := by simpa [hp] using h
      have e2 : getL (p :: l) k = getL l k := by simp [getL, List.find?_cons, hp]
      have := sum_upd f k c l hn'.2 h'
      rw [List.map_cons, if_neg hp, e2]
      simp only [sumF, List.map_cons, List.sum_cons] at this ⊢
      omega
theorem sum_put (f : Nat → Int) (k : Nat) (c : Int) (l : Lv) (h : (l.map (·.1)).Nodup) : sumF f (putL l k (getL l k + c)) = sumF f l + c * f k := by
  unfold putL
  by_cases hn : (l.any fun p => decide (p.1 = k)) = true
  · rw [if_pos hn, sum_upd f k _ l h hn]
    congr 1
    congr 1
    omega
  · rw [if_neg hn]
    have : getL l k = 0 := by
      unfold getL
      have : l.find? (fun p => decide (p.1 = k)) = none := by
        rw [List.find?_eq_none]
        intro p hp z
        exact hn (List.any_eq_true.mpr ⟨p, hp, z⟩)
      rw [this]
    rw [this]
    simp [sumF]
end
end Wk

namespace Wk
noncomputable section
open PySem PySem.Spec Sm Mp
variable {C : Str → Addr}
def W : List (List (Nat × Nat)) → Nat → Int
  | [], _ => 1
  | r :: rs, m => (r.map fun q => (blend m (q.1 + q.2) : Int) * (blend q.1 q.2 : Int) * W rs (m + (q.1 + q.2))).sum
def rowsOf (ps : List (Option Int)) (ls gl : List (List Nat)) : List (List (Nat × Nat)) := (List.range gl.length).map (sides ps ls gl)
def waysOf (ps : List (Option Int)) (ls gl : List (List Nat)) : Int := W (rowsOf ps ls gl) 0
def tot (gl : List (List Nat)) (n : Nat) : Nat := ((gl.take n).map List.length).sum
theorem tot_succ (gl : List (List Nat)) {n : Nat} (h : n < gl.length) : tot gl (n + 1) = tot gl n + (gl.getD n []).length := by
  unfold tot
  rw [List.take_succ_eq_append_getElem h, List.map_append, List.sum_append, getD_lt h]
  simp
theorem tot_le {ps ls gl} (G : Good ps ls gl) (n : Nat) : tot gl n ≤ 12 := by
  have h1 : gl.flatten.length ≤ ps.length := nodup_bound _ _ G.g.nd fun b hb => (G.g.cov b).mp hb
  have h2 : gl.flatten.length = (gl.map List.length).sum := by rw [List.length_flatten]
  have h3 : (gl.map List.length).sum = ((gl.take n).map List.length).sum + ((gl.drop n).map List.length).sum := by
    rw [← List.sum_append, ← List.map_append, List.take_append_drop]
  have := G.pl
  unfold tot
  omega
theorem sides_le {ps ls gl} {n : Nat} {q : Nat × Nat} (h : q ∈ sides ps ls gl n) : q.1 + q.2 ≤ (gl.getD n []).length := by
  unfold sides sidesOf at h
  split at h
  · obtain ⟨f, hf, rfl⟩ := List.mem_map.mp h
    have := List.mem_range.mp hf
    show f + ((gl.getD n []).length - f) ≤ _
    omega
  · obtain ⟨r, hr, rfl⟩ := List.mem_map.mp h
    have := hold_mem (best_mem hr)
    show r.1 + ((gl.getD n []).length - r.2) ≤ _
    omega
structure Kb (l : Lv) (B : Nat) : Prop where
  nd : (l.map (·.1)).Nodup
  le : ∀ p ∈ l, p.1 ≤ B
theorem Kb.len {l : Lv} {B : Nat} (h : Kb l B) : l.length ≤ B + 1 := by
  have := nodup_bound (B + 1) (l.map (·.1)) h.nd fun b hb => by
    obtain ⟨p, hp, rfl⟩ := List.mem_map.mp hb
    have := h.le p hp; omega
  simpa using this
theorem Kb.put {l : Lv} {B k : Nat} {c : Int} (h : Kb l B) (hk : k ≤ B) : Kb (putL l k c) B := by
  obtain ⟨h1, h2⟩ := putL_keys (k := k) (c := c) h.nd
  refine ⟨h1, fun p hp => ?_⟩
  rcases h2 p.1 (List.mem_map.mpr ⟨p, hp, rfl⟩) with z | z
  · obtain ⟨r, hr, e⟩ := List.mem_map.mp z
    rw [← e]; exact h.le r hr
  · omega
abbrev wB : DS := cSeq (cSet 8 (cFz (cOp gAdd [.v 6, .v 7]))) (cSeq (cSet 9 (cFz (cOp gMulV [.e (cCall (d_blended C) [.v 4, .v 8]), .e (cCall (d_blended C) [.v 6, .v 7])])))
    (cDPut 3 (cFz (cOp gAdd [.e (cDGet2 3 (cOp gAdd [.v 4, .v 8]) (cC (.val (.int 0)))), .e (cOp gMulV [.v 5, .v 9])])) (cOp gAdd [.v 4, .v 8])))
theorem in_step (T : M) (n m : Nat) (c : Int) (later : Lv) (q : Nat × Nat) (B : Nat) (hB : B ≤ 12) (hk : Kb later B) (hq : m + (q.1 + q.2) ≤ B) (s1 j6 j7 j8 j9 : Sm.Slot) (P : Sm.Env → Prop)
    (h : ∀ j6 j7 j8 j9 : Sm.Slot, P ⟨[.bor 0, s1, .own (vv (nI n)), .own (.dct (eLv (putL later (m + (q.1 + q.2)) (getL later (m + (q.1 + q.2)) + c * ((blend m (q.1 + q.2) : Int) * (blend q.1 q.2 : Int)))))), .own (vv (nI m)), .own (vv (.int c)), j6, j7, j8, j9], [T]⟩) :
    ForOk (gT 2 (gsC (gN 6) (gsC (gN 7) gsN))) (wB (C := C)) (ePr q) ⟨[.bor 0, s1, .own (vv (nI n)), .own (.dct (eLv later)), .own (vv (nI m)), .own (vv (.int c)), j6, j7, j8, j9], [T]⟩ P := by
  obtain ⟨a, b⟩ := q
  dsimp only at *
  have b1 : d_blended C [.val (nI m), .val (.int ((a : Int) + (b : Int)))] = .ok (.val (nI (blend m (a + b)))) [.val (nI m), .val (.int ((a : Int) + (b : Int)))] := e_blended m (a + b) (by omega) (by omega)
  have b2 := e_blended (C := C) a b (by omega) (by omega)
  have hb : (blend m (a + b) : Int).natAbs < 9223372036854775808 := by
    have h1 : blend m (a + b) ≤ 2 ^ (m + (a + b)) := ch_le _ _
    have h2 : 2 ^ (m + (a + b)) ≤ 2 ^ 12 := Nat.pow_le_pow_right (by omega) (by omega)
    have h3 : (2 : Nat) ^ 12 = 4096 := rfl
    omega
  have hb2 : ((blend m (a + b) : Int) * (blend a b : Int)).natAbs < 9223372036854775808 := by
    have h1 : blend m (a + b) ≤ 2 ^ (m + (a + b)) := ch_le _ _
    have h2 : 2 ^ (m + (a + b)) ≤ 2 ^ 12 := Nat.pow_le_pow_right (by omega) (by omega)
    have h4 : blend a b ≤ 2 ^ (a + b) := ch_le _ _
    have h5 : 2 ^ (a + b) ≤ 2 ^ 12 := Nat.pow_le_pow_right (by omega) (by omega)
    have h3 : (2 : Nat) ^ 12 = 4096 := rfl
    have h6 : blend m (a + b) * blend a b ≤ 4096 * 4096 := Nat.mul_le_mul (by omega) (by omega)
    have h7 : ((blend m (a + b) : Int) * (blend a b : Int)).natAbs = blend m (a + b) * blend a b := by
      rw [Int.natAbs_mul]; simp
    omega
  have hv : (valD (eLv later) (.inl ((m : Int) + ((a : Int) + (b : Int))))).getD (.int 0) = .int (getL later (m + (a + b))) := valD_eLv (m + (a + b)) later
  have hp := putD_eLv (m + (a + b)) (getL later (m + (a + b)) + c * ((blend m (a + b) : Int) * (blend a b : Int))) later
  have hp' : putD (eLv later) (.inl ((m : Int) + ((a : Int) + (b : Int)))) (.int (getL later (m + (a + b)) + c * ((blend m (a + b) : Int) * (blend a b : Int)))) = eLv (putL later (m + (a + b)) (getL later (m + (a + b)) + c * ((blend m (a + b) : Int) * (blend a b : Int)))) := hp
  have hl : (eLv later).length < 16777216 := by have := hk.len; simp; omega
  generalize hE : eLv later = E at *
  generalize hV : putL later (m + (a + b)) (getL later (m + (a + b)) + c * ((blend m (a + b) : Int) * (blend a b : Int))) = V at *
  simp [def0, cRet, cAndV, cNotV, cOp, cC, cV, cChain, cOrV, cOrT, cCall, cIfS, cNx, cBad, cSeq, cSet, cB, cAnd, cOr, cNot, cIf, cFz, cExpr, cMov, cYes, RE.bind, RE.toS, RS.then, evA, evP, Sm.Env.get, Sm.Env.put, Sm.Env.asg, getS, getM, startS, isCopy, lendC, backC, M.isHole, M.fz, M.view, Slot.cont, gN, gT, gsC, gsN, Sm.Env.wipe, Sm.Env.rest, wipeS, restS, cSl, asI, isLst, gApp, cMut, cPar, cPar3, cAsgG, LcOk, ForOk, RetOk, LcR, cLc, iSeq, itemsM, seqOf, gTupM, gLstM, valsOf, isi_int, isi_bool, isi_tup, isi_lst, len_tup, len_list, len_lst, g_sub, g_neg, g_add, g_lt, g_gt, g_le, g_ge, eq_int, ne_int, isN_int, isN_none, notN_int, notN_none, isN_tup, notN_tup, truD, b1, b2, g_mul hb, g_mulR hb2, cDPut, cDGet2, isDct, dget2M, keyM, keyD, dctOf, valOf, hv, dputM, hl, hp']
  exact h _ _ _ _
theorem sum_take {α : Type} (f : α → Int) (l : List α) {i : Nat} (h : i < l.length) : ((l.take (i + 1)).map f).sum = ((l.take i).map f).sum + f l[i] := by
  rw [List.take_succ_eq_append_getElem h, List.map_append, List.sum_append]
  simp
/-- the walk through the sides, one count -/
theorem mid_step {ps ls gl} (G : Good ps ls gl) {n : Nat} (hn : n < gl.length) (f : Nat → Int) (p : Nat × Int) (hp : p.1 ≤ tot gl n) (later : Lv) (hk : Kb later (tot gl (n + 1))) (s1 j4 j5 j6 j7 j8 j9 : Sm.Slot) (P : Sm.Env → Prop)
    (h : ∀ (L : Lv) (j4 j5 j6 j7 j8 j9 : Sm.Slot), Kb L (tot gl (n + 1)) → sumF f L = sumF f later + p.2 * ((sides ps ls gl n).map fun q => (blend p.1 (q.1 + q.2) : Int) * (blend q.1 q.2 : Int) * f (p.1 + (q.1 + q.2))).sum → P ⟨[.bor 0, s1, .own (vv (nI n)), .own (.dct (eLv L)), j4, j5, j6, j7, j8, j9], [task C ps ls gl]⟩) :
    ForOk (gT 2 (gsC (gN 4) (gsC (gN 5) gsN))) (cFor (iSeq itemsM (cMeth (C "Task") "sides" (d_Task_sides C) 0 [.v 2])) (gT 2 (gsC (gN 6) (gsC (gN 7) gsN))) (wB (C := C))) (.tuple [.int (p.1 : Int), .int p.2]) ⟨[.bor 0, s1, .own (vv (nI n)), .own (.dct (eLv later)), j4, j5, j6, j7, j8, j9], [task C ps ls gl]⟩ P := by
  have hs := e_sides (C := C) G hn
  simp [def0, cRet, cAndV, cNotV, cOp, cC, cV, cChain, cOrV, cOrT, cCall, cIfS, cNx, cBad, cSeq, cSet, cB, cAnd, cOr, cNot, cIf, cFz, cExpr, cMov, cYes, RE.bind, RE.toS, RS.then, evA, evP, Sm.Env.get, Sm.Env.put, Sm.Env.asg, getS, getM, startS, isCopy, lendC, backC, M.isHole, M.fz, M.view, Slot.cont, gN, gT, gsC, gsN, Sm.Env.wipe, Sm.Env.rest, wipeS, restS, cSl, asI, isLst, gApp, cMut, cPar, cPar3, cAsgG, LcOk, ForOk, RetOk, LcR, cLc, iSeq, itemsM, seqOf, gTupM, gLstM, valsOf, isi_int, isi_bool, isi_tup, isi_lst, len_tup, len_list, len_lst, g_sub, g_neg, g_add, g_lt, g_gt, g_le, g_ge, eq_int, ne_int, isN_int, isN_none, notN_int, notN_none, isN_tup, notN_tup, truD, cFor, cMeth, ok_sides, hs]
  generalize hF : forD _ _ _ _ = F
  have h12 := tot_le G (n + 1)
  obtain ⟨e', rfl, L, j6, j7, j8, j9, hL, hS, rfl⟩ := for_at hF (fun i e => ∃ (L : Lv) (j6 j7 j8 j9 : Sm.Slot), Kb L (tot gl (n + 1)) ∧ sumF f L = sumF f later + p.2 * (((sides ps ls gl n).take i).map fun q => (blend p.1 (q.1 + q.2) : Int) * (blend q.1 q.2 : Int) * f (p.1 + (q.1 + q.2))).sum ∧ e = ⟨[.bor 0, s1, .own (vv (nI n)), .own (.dct (eLv L)), .own (vv (nI p.1)), .own (vv (.int p.2)), j6, j7, j8, j9], [task C ps ls gl]⟩) ⟨later, _, _, _, _, hk, by simp, rfl⟩ (fun i hi e ⟨L, j6, j7, j8, j9, hL, hS, he⟩ => by
    subst he
    have hq := sides_le (ps := ps) (ls := ls) (List.getElem_mem hi)
    have ht := tot_succ gl hn
    refine in_step (C := C) (task C ps ls gl) n p.1 p.2 L (sides ps ls gl n)[i] (tot gl (n + 1)) h12 hL (by omega) s1 j6 j7 j8 j9 _ fun j6 j7 j8 j9 => ?_
    refine ⟨_, j6, j7, j8, j9, hL.put (by omega), ?_, rfl⟩
    rw [sum_put f _ _ L hL.nd, hS, sum_take _ _ hi, Int.mul_add, Int.mul_assoc p.2]
    omega)
  rw [List.take_length] at hS
  exact h L _ _ _ _ _ _ hL hS
theorem W_cons (r : List (Nat × Nat)) (rs : List (List (Nat × Nat))) (m : Nat) : W (r :: rs) m = (r.map fun q => (blend m (q.1 + q.2) : Int) * (blend q.1 q.2 : Int) * W rs (m + (q.1 + q.2))).sum := rfl
theorem rows_drop (ps ls gl) {n : Nat} (h : n < gl.length) : (rowsOf ps ls gl).drop n = sides ps ls gl n :: (rowsOf ps ls gl).drop (n + 1) := by
  have : n < (rowsOf ps ls gl).length := by simpa [rowsOf] using h
  rw [List.drop_eq_getElem_cons this]
  simp [rowsOf]
theorem e_ways {ps ls gl} (G : Good ps ls gl) : d_Task_ways C [task C ps ls gl] = .ok (.val (.int (waysOf ps ls gl))) [task C ps ls gl] := by
  have hz : gl.length ≤ 1000000 := by have := G.e; have := G.l.le; omega
  unfold d_Task_ways b_Task_ways
  simp [def0, cRet, cAndV, cNotV, cOp, cC, cV, cChain, cOrV, cOrT, cCall, cIfS, cNx, cBad, cSeq, cSet, cB, cAnd, cOr, cNot, cIf, cFz, cExpr, cMov, cYes, RE.bind, RE.toS, RS.then, evA, evP, Sm.Env.get, Sm.Env.put, Sm.Env.asg, getS, getM, startS, isCopy, lendC, backC, M.isHole, M.fz, M.view, Slot.cont, gN, gT, gsC, gsN, Sm.Env.wipe, Sm.Env.rest, wipeS, restS, cSl, asI, isLst, gApp, cMut, cPar, cPar3, cAsgG, LcOk, ForOk, RetOk, LcR, cLc, iSeq, itemsM, seqOf, gTupM, gLstM, valsOf, isi_int, isi_bool, isi_tup, isi_lst, len_tup, len_list, len_lst, g_sub, g_neg, g_add, g_lt, g_gt, g_le, g_ge, eq_int, ne_int, isN_int, isN_none, notN_int, notN_none, isN_tup, notN_tup, truD, cFld, f_wanted, cFor, iRng1D, int1_nat hz, rng0_map]
  generalize hF : forD _ _ _ _ = F
  obtain ⟨e', rfl, L, j2, j3, j4, j5, j6, j7, j8, j9, hL, hS, rfl⟩ := for_at hF (fun i e => ∃ (L : Lv) (j2 j3 j4 j5 j6 j7 j8 j9 : Sm.Slot), Kb L (tot gl i) ∧ sumF (W ((rowsOf ps ls gl).drop i)) L = waysOf ps ls gl ∧ e = ⟨[.bor 0, .own (.dct (eLv L)), j2, j3, j4, j5, j6, j7, j8, j9], [task C ps ls gl]⟩)
    ⟨[(0, 1)], .own .hole, .own .hole, .own .hole, .own .hole, .own .hole, .own .hole, .own .hole, .own .hole, ⟨by simp, by simp⟩, by simp [sumF, waysOf], by simp⟩ (fun i hi e ⟨L, j2, j3, j4, j5, j6, j7, j8, j9, hL, hS, he⟩ => by
    subst he
    have hi' : i < gl.length := by simpa using hi
    have hr : (List.range gl.length)[i] = i := by simp
    rw [hr]
    have hit : itemsD (eLv L) = L.map fun p => .tuple [.int (p.1 : Int), .int p.2] := by
      unfold itemsD
      rw [List.map_map]
      rfl
    generalize hE : eLv L = E at *
    simp [def0, cRet, cAndV, cNotV, cOp, cC, cV, cChain, cOrV, cOrT, cCall, cIfS, cNx, cBad, cSeq, cSet, cB, cAnd, cOr, cNot, cIf, cFz, cExpr, cMov, cYes, RE.bind, RE.toS, RS.then, evA, evP, Sm.Env.get, Sm.Env.put, Sm.Env.asg, getS, getM, startS, isCopy, lendC, backC, M.isHole, M.fz, M.view, Slot.cont, gN, gT, gsC, gsN, Sm.Env.wipe, Sm.Env.rest, wipeS, restS, cSl, asI, isLst, gApp, cMut, cPar, cPar3, cAsgG, LcOk, ForOk, RetOk, LcR, cLc, iSeq, itemsM, seqOf, gTupM, gLstM, valsOf, isi_int, isi_bool, isi_tup, isi_lst, len_tup, len_list, len_lst, g_sub, g_neg, g_add, g_lt, g_gt, g_le, g_ge, eq_int, ne_int, isN_int, isN_none, notN_int, notN_none, isN_tup, notN_tup, truD, cItems, dctOf, hit]
    generalize hF2 : forD _ _ _ _ = F2
    obtain ⟨e', rfl, L2, j4, j5, j6, j7, j8, j9, hL2, hS2, rfl⟩ := for_at hF2 (fun k e => ∃ (L2 : Lv) (j4 j5 j6 j7 j8 j9 : Sm.Slot), Kb L2 (tot gl (i + 1)) ∧ sumF (W ((rowsOf ps ls gl).drop (i + 1))) L2 = sumF (W ((rowsOf ps ls gl).drop i)) (L.take k) ∧ e = ⟨[.bor 0, .own .hole, .own (vv (nI i)), .own (.dct (eLv L2)), j4, j5, j6, j7, j8, j9], [task C ps ls gl]⟩)
      ⟨[], j4, j5, j6, j7, j8, j9, ⟨by simp, by simp⟩, by simp [sumF], by simp⟩ (fun k hk e ⟨L2, j4, j5, j6, j7, j8, j9, hL2, hS2, he⟩ => by
      subst he
      refine mid_step (C := C) G hi' (W ((rowsOf ps ls gl).drop (i + 1))) L[k] (hL.le _ (List.getElem_mem hk)) L2 hL2 (.own .hole) j4 j5 j6 j7 j8 j9 _ fun L3 j4 j5 j6 j7 j8 j9 hL3 hS3 => ?_
      refine ⟨L3, j4, j5, j6, j7, j8, j9, hL3, ?_, rfl⟩
      rw [hS3, hS2]
      have : sumF (W ((rowsOf ps ls gl).drop i)) (L.take (k + 1)) = sumF (W ((rowsOf ps ls gl).drop i)) (L.take k) + L[k].2 * W ((rowsOf ps ls gl).drop i) L[k].1 := sum_take (fun p : Nat × Int => p.2 * W ((rowsOf ps ls gl).drop i) p.1) L hk
      rw [this, rows_drop ps ls gl hi', W_cons])
    rw [List.take_length, hS] at hS2
    simp [def0, cRet, cAndV, cNotV, cOp, cC, cV, cChain, cOrV, cOrT, cCall, cIfS, cNx, cBad, cSeq, cSet, cB, cAnd, cOr, cNot, cIf, cFz, cExpr, cMov, cYes, RE.bind, RE.toS, RS.then, evA, evP, Sm.Env.get, Sm.Env.put, Sm.Env.asg, getS, getM, startS, isCopy, lendC, backC, M.isHole, M.fz, M.view, Slot.cont, gN, gT, gsC, gsN, Sm.Env.wipe, Sm.Env.rest, wipeS, restS, cSl, asI, isLst, gApp, cMut, cPar, cPar3, cAsgG, LcOk, ForOk, RetOk, LcR, cLc, iSeq, itemsM, seqOf, gTupM, gLstM, valsOf, isi_int, isi_bool, isi_tup, isi_lst, len_tup, len_list, len_lst, g_sub, g_neg, g_add, g_lt, g_gt, g_le, g_ge, eq_int, ne_int, isN_int, isN_none, notN_int, notN_none, isN_tup, notN_tup, truD]
    exact ⟨L2, hL2, hS2, rfl⟩)
  have hd : (rowsOf ps ls gl).drop gl.length = [] := List.drop_eq_nil_of_le (by simp [rowsOf])
  simp only [List.length_range] at hS
  rw [hd] at hS
  have hi : intsOf ((eLv L).map (·.2)) = some (L.map (·.2)) := by
    rw [List.map_map]
    exact intsOf_mapA (fun p : Nat × Int => p.2) L
  have hs : (L.map (·.2)).sum = waysOf ps ls gl := by
    rw [← hS]
    simp [sumF, W]
  generalize hE : eLv L = E at *
  simp [def0, cRet, cAndV, cNotV, cOp, cC, cV, cChain, cOrV, cOrT, cCall, cIfS, cNx, cBad, cSeq, cSet, cB, cAnd, cOr, cNot, cIf, cFz, cExpr, cMov, cYes, RE.bind, RE.toS, RS.then, evA, evP, Sm.Env.get, Sm.Env.put, Sm.Env.asg, getS, getM, startS, isCopy, lendC, backC, M.isHole, M.fz, M.view, Slot.cont, gN, gT, gsC, gsN, Sm.Env.wipe, Sm.Env.rest, wipeS, restS, cSl, asI, isLst, gApp, cMut, cPar, cPar3, cAsgG, LcOk, ForOk, RetOk, LcR, cLc, iSeq, itemsM, seqOf, gTupM, gLstM, valsOf, isi_int, isi_bool, isi_tup, isi_lst, len_tup, len_list, len_lst, g_sub, g_neg, g_add, g_lt, g_gt, g_le, g_ge, eq_int, ne_int, isN_int, isN_none, notN_int, notN_none, isN_tup, notN_tup, truD, cSumV, dctOf, hi, hs]
end
end Wk
namespace Wk
noncomputable section
open PySem PySem.Spec Sm Mp
variable {C : Str → Addr}
/-! ### the three questions -/
abbrev eLeast (ps : List (Option Int)) (ls gl : List (List Nat)) : PyData := if barOf ps ls gl = .none then .tuple [.int (costOf ps ls gl), .list ((wayOf ps ls gl).map eDeed)] else .none
theorem e_least {ps ls gl} (G : Good ps ls gl) : d_least C [.val (eSh ps ls), .val (eLots gl)] = .ok (.val (eLeast ps ls gl)) [.val (eSh ps ls), .val (eLots gl)] := by
  unfold d_least b_least eLeast
  by_cases h : barOf ps ls gl = .none
  · simp [def0, cRet, cAndV, cNotV, cOp, cC, cV, cChain, cOrV, cOrT, cCall, cIfS, cNx, cBad, cSeq, cSet, cB, cAnd, cOr, cNot, cIf, cFz, cExpr, cMov, cYes, RE.bind, RE.toS, RS.then, evA, evP, Sm.Env.get, Sm.Env.put, Sm.Env.asg, getS, getM, startS, isCopy, lendC, backC, M.isHole, M.fz, M.view, Slot.cont, gN, gT, gsC, gsN, Sm.Env.wipe, Sm.Env.rest, wipeS, restS, cSl, asI, isLst, gApp, cMut, cPar, cPar3, cAsgG, LcOk, ForOk, RetOk, LcR, cLc, iSeq, itemsM, seqOf, gTupM, gLstM, valsOf, isi_int, isi_bool, isi_tup, isi_lst, len_tup, len_list, len_lst, g_sub, g_neg, g_add, g_lt, g_gt, g_le, g_ge, eq_int, ne_int, isN_int, isN_none, notN_int, notN_none, isN_tup, notN_tup, truD, e_task_of G, cMeth, ok_may, e_may G, h, ok_cost, ok_way, e_cost G, e_way G]
  · simp [def0, cRet, cAndV, cNotV, cOp, cC, cV, cChain, cOrV, cOrT, cCall, cIfS, cNx, cBad, cSeq, cSet, cB, cAnd, cOr, cNot, cIf, cFz, cExpr, cMov, cYes, RE.bind, RE.toS, RS.then, evA, evP, Sm.Env.get, Sm.Env.put, Sm.Env.asg, getS, getM, startS, isCopy, lendC, backC, M.isHole, M.fz, M.view, Slot.cont, gN, gT, gsC, gsN, Sm.Env.wipe, Sm.Env.rest, wipeS, restS, cSl, asI, isLst, gApp, cMut, cPar, cPar3, cAsgG, LcOk, ForOk, RetOk, LcR, cLc, iSeq, itemsM, seqOf, gTupM, gLstM, valsOf, isi_int, isi_bool, isi_tup, isi_lst, len_tup, len_list, len_lst, g_sub, g_neg, g_add, g_lt, g_gt, g_le, g_ge, eq_int, ne_int, isN_int, isN_none, notN_int, notN_none, isN_tup, notN_tup, truD, e_task_of G, cMeth, ok_may, e_may G, h]
def longAt (ps : List (Option Int)) (ls gl : List (List Nat)) (n : Nat) : Int := long ps (ls.getD n []) (gl.getD n [])
def fewOf (ps : List (Option Int)) (ls gl : List (List Nat)) : Int := ((ps.filter fun p => decide (p ≠ none)).length : Int) - ((List.range gl.length).map (longAt ps ls gl)).sum
abbrev eFew (ps : List (Option Int)) (ls gl : List (List Nat)) : PyData := if barOf ps ls gl = .none then .int (fewOf ps ls gl) else .none
theorem e_longest' {ps ls gl} (G : Good ps ls gl) {n : Nat} (hn : n < gl.length) : d_longest C [.val (eSh ps ls), .val (nI n), .val (eLots gl)] = .ok (.val (.int (longAt ps ls gl n))) [.val (eSh ps ls), .val (nI n), .val (eLots gl)] := by
  have h2 : n < ls.length := by have := G.e; omega
  unfold longAt
  rw [getD_lt hn, getD_lt h2]
  exact e_longest ps ls gl n hn h2 (G.lot hn h2)
theorem e_fewest {ps ls gl} (G : Good ps ls gl) : d_fewest C [.val (eSh ps ls), .val (eLots gl)] = .ok (.val (eFew ps ls gl)) [.val (eSh ps ls), .val (eLots gl)] := by
  have hz : gl.length ≤ 1000000 := by have := G.e; have := G.l.le; omega
  have hp := G.pl
  unfold d_fewest b_fewest eFew
  by_cases h : barOf ps ls gl = .none
  · simp [def0, cRet, cAndV, cNotV, cOp, cC, cV, cChain, cOrV, cOrT, cCall, cIfS, cNx, cBad, cSeq, cSet, cB, cAnd, cOr, cNot, cIf, cFz, cExpr, cMov, cYes, RE.bind, RE.toS, RS.then, evA, evP, Sm.Env.get, Sm.Env.put, Sm.Env.asg, getS, getM, startS, isCopy, lendC, backC, M.isHole, M.fz, M.view, Slot.cont, gN, gT, gsC, gsN, Sm.Env.wipe, Sm.Env.rest, wipeS, restS, cSl, asI, isLst, gApp, cMut, cPar, cPar3, cAsgG, LcOk, ForOk, RetOk, LcR, cLc, iSeq, itemsM, seqOf, gTupM, gLstM, valsOf, isi_int, isi_bool, isi_tup, isi_lst, len_tup, len_list, len_lst, g_sub, g_neg, g_add, g_lt, g_gt, g_le, g_ge, eq_int, ne_int, isN_int, isN_none, notN_int, notN_none, isN_tup, notN_tup, truD, e_task_of G, cMeth, ok_may, e_may G, h, ix_sh0]
    rw [lc_of (fun p : Option Int => decide (p ≠ none)) eP (fun p hp => by cases p <;> simp [def0, cRet, cAndV, cNotV, cOp, cC, cV, cChain, cOrV, cOrT, cCall, cIfS, cNx, cBad, cSeq, cSet, cB, cAnd, cOr, cNot, cIf, cFz, cExpr, cMov, cYes, RE.bind, RE.toS, RS.then, evA, evP, Sm.Env.get, Sm.Env.put, Sm.Env.asg, getS, getM, startS, isCopy, lendC, backC, M.isHole, M.fz, M.view, Slot.cont, gN, gT, gsC, gsN, Sm.Env.wipe, Sm.Env.rest, wipeS, restS, cSl, asI, isLst, gApp, cMut, cPar, cPar3, cAsgG, LcOk, ForOk, RetOk, LcR, cLc, iSeq, itemsM, seqOf, gTupM, gLstM, valsOf, isi_int, isi_bool, isi_tup, isi_lst, len_tup, len_list, len_lst, g_sub, g_neg, g_add, g_lt, g_gt, g_le, g_ge, eq_int, ne_int, isN_int, isN_none, notN_int, notN_none, isN_tup, notN_tup, truD]) (by omega)]
    simp [def0, cRet, cAndV, cNotV, cOp, cC, cV, cChain, cOrV, cOrT, cCall, cIfS, cNx, cBad, cSeq, cSet, cB, cAnd, cOr, cNot, cIf, cFz, cExpr, cMov, cYes, RE.bind, RE.toS, RS.then, evA, evP, Sm.Env.get, Sm.Env.put, Sm.Env.asg, getS, getM, startS, isCopy, lendC, backC, M.isHole, M.fz, M.view, Slot.cont, gN, gT, gsC, gsN, Sm.Env.wipe, Sm.Env.rest, wipeS, restS, cSl, asI, isLst, gApp, cMut, cPar, cPar3, cAsgG, LcOk, ForOk, RetOk, LcR, cLc, iSeq, itemsM, seqOf, gTupM, gLstM, valsOf, isi_int, isi_bool, isi_tup, isi_lst, len_tup, len_list, len_lst, g_sub, g_neg, g_add, g_lt, g_gt, g_le, g_ge, eq_int, ne_int, isN_int, isN_none, notN_int, notN_none, isN_tup, notN_tup, truD, iRng1D, int1_nat hz, rng0_map]
    rw [lc_ofY (fun n => .int (longAt ps ls gl n)) (fun n hn => by
      have hn' : n < gl.length := by simpa using hn
      have := e_longest' (C := C) G hn'
      simp [def0, cRet, cAndV, cNotV, cOp, cC, cV, cChain, cOrV, cOrT, cCall, cIfS, cNx, cBad, cSeq, cSet, cB, cAnd, cOr, cNot, cIf, cFz, cExpr, cMov, cYes, RE.bind, RE.toS, RS.then, evA, evP, Sm.Env.get, Sm.Env.put, Sm.Env.asg, getS, getM, startS, isCopy, lendC, backC, M.isHole, M.fz, M.view, Slot.cont, gN, gT, gsC, gsN, Sm.Env.wipe, Sm.Env.rest, wipeS, restS, cSl, asI, isLst, gApp, cMut, cPar, cPar3, cAsgG, LcOk, ForOk, RetOk, LcR, cLc, iSeq, itemsM, seqOf, gTupM, gLstM, valsOf, isi_int, isi_bool, isi_tup, isi_lst, len_tup, len_list, len_lst, g_sub, g_neg, g_add, g_lt, g_gt, g_le, g_ge, eq_int, ne_int, isN_int, isN_none, notN_int, notN_none, isN_tup, notN_tup, truD, this]) (by simp; omega)]
    simp [def0, cRet, cAndV, cNotV, cOp, cC, cV, cChain, cOrV, cOrT, cCall, cIfS, cNx, cBad, cSeq, cSet, cB, cAnd, cOr, cNot, cIf, cFz, cExpr, cMov, cYes, RE.bind, RE.toS, RS.then, evA, evP, Sm.Env.get, Sm.Env.put, Sm.Env.asg, getS, getM, startS, isCopy, lendC, backC, M.isHole, M.fz, M.view, Slot.cont, gN, gT, gsC, gsN, Sm.Env.wipe, Sm.Env.rest, wipeS, restS, cSl, asI, isLst, gApp, cMut, cPar, cPar3, cAsgG, LcOk, ForOk, RetOk, LcR, cLc, iSeq, itemsM, seqOf, gTupM, gLstM, valsOf, isi_int, isi_bool, isi_tup, isi_lst, len_tup, len_list, len_lst, g_sub, g_neg, g_add, g_lt, g_gt, g_le, g_ge, eq_int, ne_int, isN_int, isN_none, notN_int, notN_none, isN_tup, notN_tup, truD, sum_map (longAt ps ls gl), fewOf]
  · simp [def0, cRet, cAndV, cNotV, cOp, cC, cV, cChain, cOrV, cOrT, cCall, cIfS, cNx, cBad, cSeq, cSet, cB, cAnd, cOr, cNot, cIf, cFz, cExpr, cMov, cYes, RE.bind, RE.toS, RS.then, evA, evP, Sm.Env.get, Sm.Env.put, Sm.Env.asg, getS, getM, startS, isCopy, lendC, backC, M.isHole, M.fz, M.view, Slot.cont, gN, gT, gsC, gsN, Sm.Env.wipe, Sm.Env.rest, wipeS, restS, cSl, asI, isLst, gApp, cMut, cPar, cPar3, cAsgG, LcOk, ForOk, RetOk, LcR, cLc, iSeq, itemsM, seqOf, gTupM, gLstM, valsOf, isi_int, isi_bool, isi_tup, isi_lst, len_tup, len_list, len_lst, g_sub, g_neg, g_add, g_lt, g_gt, g_le, g_ge, eq_int, ne_int, isN_int, isN_none, notN_int, notN_none, isN_tup, notN_tup, truD, e_task_of G, cMeth, ok_may, e_may G, h]
abbrev numWays (ps : List (Option Int)) (ls gl : List (List Nat)) : Int := if barOf ps ls gl = .none then waysOf ps ls gl else 0
theorem e_Ways {ps ls gl} (G : Good ps ls gl) : d_ways C [.val (eSh ps ls), .val (eLots gl)] = .ok (.val (.int (numWays ps ls gl))) [.val (eSh ps ls), .val (eLots gl)] := by
  unfold d_ways b_ways numWays
  by_cases h : barOf ps ls gl = .none
  · simp [def0, cRet, cAndV, cNotV, cOp, cC, cV, cChain, cOrV, cOrT, cCall, cIfS, cNx, cBad, cSeq, cSet, cB, cAnd, cOr, cNot, cIf, cFz, cExpr, cMov, cYes, RE.bind, RE.toS, RS.then, evA, evP, Sm.Env.get, Sm.Env.put, Sm.Env.asg, getS, getM, startS, isCopy, lendC, backC, M.isHole, M.fz, M.view, Slot.cont, gN, gT, gsC, gsN, Sm.Env.wipe, Sm.Env.rest, wipeS, restS, cSl, asI, isLst, gApp, cMut, cPar, cPar3, cAsgG, LcOk, ForOk, RetOk, LcR, cLc, iSeq, itemsM, seqOf, gTupM, gLstM, valsOf, isi_int, isi_bool, isi_tup, isi_lst, len_tup, len_list, len_lst, g_sub, g_neg, g_add, g_lt, g_gt, g_le, g_ge, eq_int, ne_int, isN_int, isN_none, notN_int, notN_none, isN_tup, notN_tup, truD, e_task_of G, cMeth, ok_may, e_may G, h, ok_ways, e_ways G]
  · simp [def0, cRet, cAndV, cNotV, cOp, cC, cV, cChain, cOrV, cOrT, cCall, cIfS, cNx, cBad, cSeq, cSet, cB, cAnd, cOr, cNot, cIf, cFz, cExpr, cMov, cYes, RE.bind, RE.toS, RS.then, evA, evP, Sm.Env.get, Sm.Env.put, Sm.Env.asg, getS, getM, startS, isCopy, lendC, backC, M.isHole, M.fz, M.view, Slot.cont, gN, gT, gsC, gsN, Sm.Env.wipe, Sm.Env.rest, wipeS, restS, cSl, asI, isLst, gApp, cMut, cPar, cPar3, cAsgG, LcOk, ForOk, RetOk, LcR, cLc, iSeq, itemsM, seqOf, gTupM, gLstM, valsOf, isi_int, isi_bool, isi_tup, isi_lst, len_tup, len_list, len_lst, g_sub, g_neg, g_add, g_lt, g_gt, g_le, g_ge, eq_int, ne_int, isN_int, isN_none, notN_int, notN_none, isN_tup, notN_tup, truD, e_task_of G, cMeth, ok_may, e_may G, h]
end
end Wk

namespace Wk
noncomputable section
open PySem PySem.Spec Sm Mp
variable {C : Str → Addr}
/-! ### the draws -/
structure DSt where
  cells : List Int
  at_ : Nat
  mixed : Int
  rest : Int
abbrev eSt (s : DSt) : M := .lst [.list (s.cells.map .int), nI s.at_, .int s.mixed, .int s.rest]
theorem ix_s0 (s : DSt) : gIx [eSt s, .val (.int 0)] = some (.val (.list (s.cells.map .int))) := rfl
theorem ix_s1 (s : DSt) : gIx [eSt s, .val (.int 1)] = some (.val (nI s.at_)) := rfl
theorem ix_s2 (s : DSt) : gIx [eSt s, .val (.int 2)] = some (.val (.int s.mixed)) := rfl
theorem ix_s3 (s : DSt) : gIx [eSt s, .val (.int 3)] = some (.val (.int s.rest)) := rfl
theorem set_s1 (s : DSt) (n : Nat) : setM (eSt s) (.val (nI n)) (.val (.int 1)) = some (eSt { s with at_ := n }) := rfl
theorem set_s2 (s : DSt) (n : Int) : setM (eSt s) (.val (.int n)) (.val (.int 2)) = some (eSt { s with mixed := n }) := rfl
theorem set_s3 (s : DSt) (n : Int) : setM (eSt s) (.val (.int n)) (.val (.int 3)) = some (eSt { s with rest := n }) := rfl
theorem isLst_s (s : DSt) : isLst (eSt s) = true := rfl
theorem set_s1' (s : DSt) : setM (eSt s) (.val (.int ((s.at_ : Int) + 1))) (.val (.int 1)) = some (eSt { s with at_ := s.at_ + 1 }) := rfl
theorem ix_cells (c : List Int) {i : Nat} (h : i < c.length) : gIx [.val (.list (c.map .int)), .val (.int (i : Int))] = some (.val (.int c[i])) := by
  rw [ix_natL (by simpa using h)]
  simp
theorem e_drawn (s : DSt) (k : Nat) (h0 : 0 < k) (h1 : k ≤ 1000000) : ∃ r s', r < k ∧ d_w_drawn C [eSt s, .val (nI k)] = .ok (.val (nI r)) [eSt s', .val (nI k)] := by
  have hm : (0 : Int) < (k : Int) := by omega
  have hd : (0 : Int) < (k : Int) ∧ ((k : Int)).natAbs < 1073741824 := by omega
  have hr : ∀ x : Int, ∃ r : Nat, r < k ∧ x % (k : Int) = (r : Int) := fun x => by
    have a1 := Int.emod_nonneg x (show (k : Int) ≠ 0 by omega)
    have a2 := Int.emod_lt_of_pos x hm
    exact ⟨(x % (k : Int)).toNat, by omega, by omega⟩
  unfold d_w_drawn b_w_drawn
  by_cases c3 : 0 < s.rest
  · obtain ⟨r, hr1, hr2⟩ := hr s.rest
    refine ⟨r, { s with rest := s.rest / (k : Int) }, hr1, ?_⟩
    simp [def0, cRet, cAndV, cNotV, cOp, cC, cV, cChain, cOrV, cOrT, cCall, cIfS, cNx, cBad, cSeq, cSet, cB, cAnd, cOr, cNot, cIf, cFz, cExpr, cMov, cYes, RE.bind, RE.toS, RS.then, evA, evP, Sm.Env.get, Sm.Env.put, Sm.Env.asg, getS, getM, startS, isCopy, lendC, backC, M.isHole, M.fz, M.view, Slot.cont, gN, gT, gsC, gsN, Sm.Env.wipe, Sm.Env.rest, wipeS, restS, cSl, asI, isLst, gApp, cMut, cPar, cPar3, cAsgG, LcOk, ForOk, RetOk, LcR, cLc, iSeq, itemsM, seqOf, gTupM, gLstM, valsOf, isi_int, isi_bool, isi_tup, isi_lst, len_tup, len_list, len_lst, g_sub, g_neg, g_add, g_lt, g_gt, g_le, g_ge, eq_int, ne_int, isN_int, isN_none, notN_int, notN_none, isN_tup, notN_tup, truD, ix_s3, c3, g_mod hm, hr2, cSetIx, isLst_s, g_div hd, set_s3]
  · by_cases c1 : s.at_ + 1 ≤ s.cells.length
    · have c1' : (s.at_ : Int) + 1 ≤ (s.cells.length : Int) := by omega
      have hlt : s.at_ < s.cells.length := by omega
      have hx := ix_cells s.cells hlt
      obtain ⟨r, hr1, hr2⟩ := hr s.cells[s.at_]
      have hp : (gII okPow fun i j => .int (i ^ j.toNat)) [.val (.int 10), .val (.int 18)] = some (.val (.int 1000000000000000000)) := by
        rw [g_pow (by decide)]
        have : ((10 : Int) ^ (18 : Int).toNat) = 1000000000000000000 := by
          have : ((10 ^ 18 : Nat) : Int) = 1000000000000000000 := rfl
          rw [← this]; exact (Int.natCast_pow 10 18).symm
        rw [this]
      generalize hc : s.cells[s.at_] = c at *
      by_cases c2 : (1000000000000000000 : Int) ≤ c
      · refine ⟨r, { s with at_ := s.at_ + 1, rest := c / (k : Int) }, hr1, ?_⟩
        simp [def0, cRet, cAndV, cNotV, cOp, cC, cV, cChain, cOrV, cOrT, cCall, cIfS, cNx, cBad, cSeq, cSet, cB, cAnd, cOr, cNot, cIf, cFz, cExpr, cMov, cYes, RE.bind, RE.toS, RS.then, evA, evP, Sm.Env.get, Sm.Env.put, Sm.Env.asg, getS, getM, startS, isCopy, lendC, backC, M.isHole, M.fz, M.view, Slot.cont, gN, gT, gsC, gsN, Sm.Env.wipe, Sm.Env.rest, wipeS, restS, cSl, asI, isLst, gApp, cMut, cPar, cPar3, cAsgG, LcOk, ForOk, RetOk, LcR, cLc, iSeq, itemsM, seqOf, gTupM, gLstM, valsOf, isi_int, isi_bool, isi_tup, isi_lst, len_tup, len_list, len_lst, g_sub, g_neg, g_add, g_lt, g_gt, g_le, g_ge, eq_int, ne_int, isN_int, isN_none, notN_int, notN_none, isN_tup, notN_tup, truD, ix_s3, c3, cSetIx, isLst_s, ix_s1, set_s1', ix_s0, c1', hx, hp, c2, g_div hd, set_s3, g_mod hm, hr2]
      · refine ⟨r, { s with at_ := s.at_ + 1, rest := 0 }, hr1, ?_⟩
        simp [def0, cRet, cAndV, cNotV, cOp, cC, cV, cChain, cOrV, cOrT, cCall, cIfS, cNx, cBad, cSeq, cSet, cB, cAnd, cOr, cNot, cIf, cFz, cExpr, cMov, cYes, RE.bind, RE.toS, RS.then, evA, evP, Sm.Env.get, Sm.Env.put, Sm.Env.asg, getS, getM, startS, isCopy, lendC, backC, M.isHole, M.fz, M.view, Slot.cont, gN, gT, gsC, gsN, Sm.Env.wipe, Sm.Env.rest, wipeS, restS, cSl, asI, isLst, gApp, cMut, cPar, cPar3, cAsgG, LcOk, ForOk, RetOk, LcR, cLc, iSeq, itemsM, seqOf, gTupM, gLstM, valsOf, isi_int, isi_bool, isi_tup, isi_lst, len_tup, len_list, len_lst, g_sub, g_neg, g_add, g_lt, g_gt, g_le, g_ge, eq_int, ne_int, isN_int, isN_none, notN_int, notN_none, isN_tup, notN_tup, truD, ix_s3, c3, cSetIx, isLst_s, ix_s1, set_s1', ix_s0, c1', hx, hp, c2, g_div hd, set_s3, g_mod hm, hr2]
    · have c1' : ¬ (s.at_ : Int) + 1 ≤ (s.cells.length : Int) := by omega
      obtain ⟨r, hr1, hr2⟩ := hr ((s.mixed * 48271 + 11) % 2147483647 / 7)
      refine ⟨r, { s with at_ := s.at_ + 1, mixed := (s.mixed * 48271 + 11) % 2147483647 }, hr1, ?_⟩
      simp [def0, cRet, cAndV, cNotV, cOp, cC, cV, cChain, cOrV, cOrT, cCall, cIfS, cNx, cBad, cSeq, cSet, cB, cAnd, cOr, cNot, cIf, cFz, cExpr, cMov, cYes, RE.bind, RE.toS, RS.then, evA, evP, Sm.Env.get, Sm.Env.put, Sm.Env.asg, getS, getM, startS, isCopy, lendC, backC, M.isHole, M.fz, M.view, Slot.cont, gN, gT, gsC, gsN, Sm.Env.wipe, Sm.Env.rest, wipeS, restS, cSl, asI, isLst, gApp, cMut, cPar, cPar3, cAsgG, LcOk, ForOk, RetOk, LcR, cLc, iSeq, itemsM, seqOf, gTupM, gLstM, valsOf, isi_int, isi_bool, isi_tup, isi_lst, len_tup, len_list, len_lst, g_sub, g_neg, g_add, g_lt, g_gt, g_le, g_ge, eq_int, ne_int, isN_int, isN_none, notN_int, notN_none, isN_tup, notN_tup, truD, ix_s3, c3, cSetIx, isLst_s, ix_s1, set_s1', ix_s0, c1', ix_s2, g_mulR, g_mod, set_s2, g_div, g_mod hm, hr2]
theorem e_start (cs : List Int) : ∃ s, d_w_start C [.val (.list (cs.map .int))] = .ok (eSt s) [.val (.list (cs.map .int))] := by
  unfold d_w_start b_w_start
  simp [def0, cRet, cAndV, cNotV, cOp, cC, cV, cChain, cOrV, cOrT, cCall, cIfS, cNx, cBad, cSeq, cSet, cB, cAnd, cOr, cNot, cIf, cFz, cExpr, cMov, cYes, RE.bind, RE.toS, RS.then, evA, evP, Sm.Env.get, Sm.Env.put, Sm.Env.asg, getS, getM, startS, isCopy, lendC, backC, M.isHole, M.fz, M.view, Slot.cont, gN, gT, gsC, gsN, Sm.Env.wipe, Sm.Env.rest, wipeS, restS, cSl, asI, isLst, gApp, cMut, cPar, cPar3, cAsgG, LcOk, ForOk, RetOk, LcR, cLc, iSeq, itemsM, seqOf, gTupM, gLstM, valsOf, isi_int, isi_bool, isi_tup, isi_lst, len_tup, len_list, len_lst, g_sub, g_neg, g_add, g_lt, g_gt, g_le, g_ge, eq_int, ne_int, isN_int, isN_none, notN_int, notN_none, isN_tup, notN_tup, truD, cFor]
  generalize hF : forD _ _ _ _ = F
  obtain ⟨e', rfl, m, j, rfl⟩ := for_at hF (fun i e => ∃ (m : Int) (j : Sm.Slot), e = ⟨[.own (vv (.list (cs.map .int))), .own (vv (.int m)), j], [vv (.list (cs.map .int))]⟩) ⟨1, .own .hole, rfl⟩ (fun i hi e ⟨m, j, he⟩ => by
    subst he
    simp [def0, cRet, cAndV, cNotV, cOp, cC, cV, cChain, cOrV, cOrT, cCall, cIfS, cNx, cBad, cSeq, cSet, cB, cAnd, cOr, cNot, cIf, cFz, cExpr, cMov, cYes, RE.bind, RE.toS, RS.then, evA, evP, Sm.Env.get, Sm.Env.put, Sm.Env.asg, getS, getM, startS, isCopy, lendC, backC, M.isHole, M.fz, M.view, Slot.cont, gN, gT, gsC, gsN, Sm.Env.wipe, Sm.Env.rest, wipeS, restS, cSl, asI, isLst, gApp, cMut, cPar, cPar3, cAsgG, LcOk, ForOk, RetOk, LcR, cLc, iSeq, itemsM, seqOf, gTupM, gLstM, valsOf, isi_int, isi_bool, isi_tup, isi_lst, len_tup, len_list, len_lst, g_sub, g_neg, g_add, g_lt, g_gt, g_le, g_ge, eq_int, ne_int, isN_int, isN_none, notN_int, notN_none, isN_tup, notN_tup, truD, g_mulR, g_mod])
  exact ⟨⟨cs, 0, m, 0⟩, by simp [def0, cRet, cAndV, cNotV, cOp, cC, cV, cChain, cOrV, cOrT, cCall, cIfS, cNx, cBad, cSeq, cSet, cB, cAnd, cOr, cNot, cIf, cFz, cExpr, cMov, cYes, RE.bind, RE.toS, RS.then, evA, evP, Sm.Env.get, Sm.Env.put, Sm.Env.asg, getS, getM, startS, isCopy, lendC, backC, M.isHole, M.fz, M.view, Slot.cont, gN, gT, gsC, gsN, Sm.Env.wipe, Sm.Env.rest, wipeS, restS, cSl, asI, isLst, gApp, cMut, cPar, cPar3, cAsgG, LcOk, ForOk, RetOk, LcR, cLc, iSeq, itemsM, seqOf, gTupM, gLstM, valsOf, isi_int, isi_bool, isi_tup, isi_lst, len_tup, len_list, len_lst, g_sub, g_neg, g_add, g_lt, g_gt, g_le, g_ge, eq_int, ne_int, isN_int, isN_none, notN_int, notN_none, isN_tup, notN_tup, truD]⟩
end
end Wk

namespace Wk
noncomputable section
open PySem PySem.Spec Sm Mp
variable {C : Str → Addr}
theorem ne_lst (l : List Nat) : gNe [.lst (l.map nI), .lst []] = some (.val (.bool (!decide (l = [])))) := by
  have hc : cl 60 (.list (l.map nI)) = true := cl_list nI 59 l fun _ => cl_int
  rw [gNe_cl (d := .list (l.map nI)) (e := .list []) rfl rfl hc rfl, eqv_dec (p := l = []) hc rfl (by simp)]
theorem erase_map (l : List Nat) (r : Nat) : (l.map nI).eraseIdx r = (l.eraseIdx r).map nI := by
  rw [List.eraseIdx_eq_take_drop_succ, List.eraseIdx_eq_take_drop_succ, List.map_append, List.map_take, List.map_drop]
theorem pop_nat (l : List Nat) {r : Nat} (h : r < l.length) (hz : l.length ≤ 1000000) : gPopAt (.lst (l.map nI)) [.val (nI r)] = some (.lst ((l.eraseIdx r).map nI), .val (nI l[r])) := by
  have h1 : (0 : Int) ≤ (r : Int) ∧ ((r : Int)).natAbs < 9223372036854775808 := by omega
  have h2 : (l.map nI)[((r : Int)).toNat]? = some (nI l[r]) := by simp [h]
  show (if (0 : Int) ≤ (r : Int) ∧ ((r : Int)).natAbs < 9223372036854775808 then _ else _) = _
  rw [if_pos h1, h2]
  dsimp only
  rw [Int.toNat_natCast, erase_map]
theorem perm_pop (found left : List Nat) {r : Nat} (h : r < left.length) : (found ++ [left[r]] ++ left.eraseIdx r).Perm (found ++ left) := by
  rw [List.append_assoc]
  refine List.Perm.append_left _ ?_
  have : left = left.take r ++ left[r] :: left.drop (r + 1) := by
    rw [← List.drop_eq_getElem_cons h, List.take_append_drop]
  conv => rhs; rw [this]
  rw [List.eraseIdx_eq_take_drop_succ]
  show (left[r] :: (left.take r ++ left.drop (r + 1))).Perm _
  exact List.perm_middle.symm
abbrev tC : DT := cB (cOp gNe [.v 2, .e (cOp gLstM [])])
abbrev tB : DS := cExpr (cMut gApp 3 [.e (cMut gPopAt 2 [.e (cCall (d_w_drawn C) [.v 0, .e (cOp gLen [.v 2])])])])
theorem turned_loop (n : Nat) : ∀ (m : Nat) (s : DSt) (left found : List Nat) (k : Nat), left.length = m → m < k → found.length + m ≤ 1000 →
    ∃ (s' : DSt) (l : List Nat), l.Perm (found ++ left) ∧ whileD tC (tB (C := C)) k ⟨[.bor 0, .own (vv (nI n)), .own (.lst (left.map nI)), .own (.lst (found.map nI))], [eSt s, vv (nI n)]⟩ = .nx ⟨[.bor 0, .own (vv (nI n)), .own (.lst []), .own (.lst (l.map nI))], [eSt s', vv (nI n)]⟩ := by
  intro m
  induction m with
  | zero =>
    intro s left found k hm hk hl
    obtain ⟨k, rfl⟩ : ∃ k', k = k' + 1 := ⟨k - 1, by omega⟩
    have : left = [] := List.eq_nil_of_length_eq_zero hm
    subst this
    have h0 := ne_lst []
    refine ⟨s, found, by simp, ?_⟩
    unfold whileD
    have h0' : gNe [.lst [], .lst []] = some (.val (.bool false)) := by simpa using h0
    simp [def0, cRet, cAndV, cNotV, cOp, cC, cV, cChain, cOrV, cOrT, cCall, cIfS, cNx, cBad, cSeq, cSet, cB, cAnd, cOr, cNot, cIf, cFz, cExpr, cMov, cYes, RE.bind, RE.toS, RS.then, evA, evP, Sm.Env.get, Sm.Env.put, Sm.Env.asg, getS, getM, startS, isCopy, lendC, backC, M.isHole, M.fz, M.view, Slot.cont, gN, gT, gsC, gsN, Sm.Env.wipe, Sm.Env.rest, wipeS, restS, cSl, asI, isLst, gApp, cMut, cPar, cPar3, cAsgG, LcOk, ForOk, RetOk, LcR, cLc, iSeq, itemsM, seqOf, gTupM, gLstM, valsOf, isi_int, isi_bool, isi_tup, isi_lst, len_tup, len_list, len_lst, g_sub, g_neg, g_add, g_lt, g_gt, g_le, g_ge, eq_int, ne_int, isN_int, isN_none, notN_int, notN_none, isN_tup, notN_tup, truD, h0']
  | succ m ih =>
    intro s left found k hm hk hl
    obtain ⟨k, rfl⟩ : ∃ k', k = k' + 1 := ⟨k - 1, by omega⟩
    have hne : ¬ left = [] := fun z => by subst z; cases hm
    obtain ⟨r, s', hr, hd⟩ := e_drawn (C := C) s left.length (by omega) (by omega)
    have hp := pop_nat left hr (by omega)
    have hz : found.length < 16777216 := by omega
    obtain ⟨s2, l, h1, h2⟩ := ih s' (left.eraseIdx r) (found ++ [left[r]]) k (by rw [List.length_eraseIdx_of_lt hr]; omega) (by omega) (by rw [List.length_append]; simp; omega)
    refine ⟨s2, l, h1.trans (perm_pop found left hr), ?_⟩
    unfold whileD
    have hx := ne_lst left
    generalize hL : left.map nI = L at *
    generalize hE : (left.eraseIdx r).map nI = E at *
    have hlen : L.length = left.length := by rw [← hL]; simp
    simp only [List.map_append, List.map_cons, List.map_nil] at h2
    generalize hF : found.map nI = F at *
    have hlf : F.length = found.length := by rw [← hF]; simp
    simp [def0, cRet, cAndV, cNotV, cOp, cC, cV, cChain, cOrV, cOrT, cCall, cIfS, cNx, cBad, cSeq, cSet, cB, cAnd, cOr, cNot, cIf, cFz, cExpr, cMov, cYes, RE.bind, RE.toS, RS.then, evA, evP, Sm.Env.get, Sm.Env.put, Sm.Env.asg, getS, getM, startS, isCopy, lendC, backC, M.isHole, M.fz, M.view, Slot.cont, gN, gT, gsC, gsN, Sm.Env.wipe, Sm.Env.rest, wipeS, restS, cSl, asI, isLst, gApp, cMut, cPar, cPar3, cAsgG, LcOk, ForOk, RetOk, LcR, cLc, iSeq, itemsM, seqOf, gTupM, gLstM, valsOf, isi_int, isi_bool, isi_tup, isi_lst, len_tup, len_list, len_lst, g_sub, g_neg, g_add, g_lt, g_gt, g_le, g_ge, eq_int, ne_int, isN_int, isN_none, notN_int, notN_none, isN_tup, notN_tup, truD, hx, hne, len_lst, hlen, hd, hp, hz, hlf]
    exact h2
theorem e_turned (s : DSt) (n : Nat) (hn : n ≤ 1000) : ∃ (s' : DSt) (l : List Nat), l.Perm (List.range n) ∧ d_w_turned C [eSt s, .val (nI n)] = .ok (.val (.list (l.map nI))) [eSt s', .val (nI n)] := by
  obtain ⟨s', l, h1, h2⟩ := turned_loop (C := C) n n s (List.range n) [] fuelW.1 (by simp) (by have := fuelW.2; omega) (by simp; omega)
  refine ⟨s', l, by simpa using h1, ?_⟩
  have hz : (n : Int).natAbs ≤ 16777216 := by omega
  have hz2 : n ≤ 16777216 := by omega
  unfold d_w_turned b_w_turned
  simp only [vv, tC, tB, List.map_nil] at h2
  simp [def0, cRet, cAndV, cNotV, cOp, cC, cV, cChain, cOrV, cOrT, cCall, cIfS, cNx, cBad, cSeq, cSet, cB, cAnd, cOr, cNot, cIf, cFz, cExpr, cMov, cYes, RE.bind, RE.toS, RS.then, evA, evP, Sm.Env.get, Sm.Env.put, Sm.Env.asg, getS, getM, startS, isCopy, lendC, backC, M.isHole, M.fz, M.view, Slot.cont, gN, gT, gsC, gsN, Sm.Env.wipe, Sm.Env.rest, wipeS, restS, cSl, asI, isLst, gApp, cMut, cPar, cPar3, cAsgG, LcOk, ForOk, RetOk, LcR, cLc, iSeq, itemsM, seqOf, gTupM, gLstM, valsOf, isi_int, isi_bool, isi_tup, isi_lst, len_tup, len_list, len_lst, g_sub, g_neg, g_add, g_lt, g_gt, g_le, g_ge, eq_int, ne_int, isN_int, isN_none, notN_int, notN_none, isN_tup, notN_tup, truD, cRng1, hz, hz2, rng0_map, h2]
end
end Wk

namespace Wk
noncomputable section
open PySem PySem.Spec Sm Mp
variable {C : Str → Addr}
theorem rep_unit (k : Nat) (h : k ≤ 1000) : gMulV [.lst [.tuple []], .val (nI k)] = some (.lst ((List.replicate k ([] : List Nat)).map eLot)) := by
  have h1 : ((k : Int)).natAbs < 9223372036854775808 ∧ [PyData.tuple []].length * ((k : Int)).toNat ≤ 16777216 := by simp; omega
  have h2 : gRepL [.lst [.tuple []], .val (nI k)] = some (.lst (List.replicate ((k : Int)).toNat [PyData.tuple []]).flatten) := by
    show (if ((k : Int)).natAbs < 9223372036854775808 ∧ [PyData.tuple []].length * ((k : Int)).toNat ≤ 16777216 then _ else _) = _
    rw [if_pos h1]
  have h3 : (List.replicate ((k : Int)).toNat [PyData.tuple []]).flatten = (List.replicate k ([] : List Nat)).map eLot := by
    rw [Int.toNat_natCast]
    clear h1 h2 h
    induction k with
    | zero => rfl
    | succ k ih => rw [List.replicate_succ, List.flatten_cons, ih, List.replicate_succ, List.map_cons]; rfl
  have e : gMulV [.lst [.tuple []], .val (nI k)] = gRepL [.lst [.tuple []], .val (nI k)] := by
    simp only [gMulV, gMul, Sm.orM, gII]
    rw [h2]
  rw [e, h2, h3]
theorem cat_lot (l m : List Nat) (h : l.length + m.length ≤ 1000) : gAdd [.val (eLot l), .val (eLot m)] = some (.val (eLot (l ++ m))) := by
  have h1 : gCatT [.val (eLot l), .val (eLot m)] = some (.val (.tuple (l.map nI ++ m.map nI))) := by
    show (if (l.map nI).length + (m.map nI).length ≤ 16777216 then _ else _) = _
    rw [if_pos (by simp; omega)]
  have e : gAdd [.val (eLot l), .val (eLot m)] = gCatT [.val (eLot l), .val (eLot m)] := by
    simp only [gAdd, Sm.orM, gI, gII]
    rw [h1]
  rw [e, h1, ← List.map_append]
theorem ixN_nat {n i : Nat} (h : i < n) : L2.ixN n (i : Int) = some i := by
  unfold L2.ixN
  rw [if_pos (by omega), if_pos (by omega)]
  simp
theorem set_lots (ls : List (List Nat)) (l : List Nat) {k : Nat} (h : k < ls.length) : setM (.lst (ls.map eLot)) (.val (eLot l)) (.val (nI k)) = some (.lst ((ls.set k l).map eLot)) := by
  have h1 : ixOk (ls.map eLot) (.val (nI k)) = some k := by
    show L2.ixN (ls.map eLot).length (k : Int) = some k
    exact ixN_nat (by simpa using h)
  show (match ixOk (ls.map eLot) (.val (nI k)) with
    | some j => some (M.lst ((ls.map eLot).set j (eLot l)))
    | none => none) = _
  rw [h1, List.map_set]
theorem ix_lotsM (ls : List (List Nat)) {i : Nat} (h : i < ls.length) : gIx [.lst (ls.map eLot), .val (nI i)] = some (.val (eLot ls[i])) := by
  rw [ix_natM (by simpa using h)]
  simp
theorem flat_set (ls : List (List Nat)) (l : List Nat) {k : Nat} (h : k < ls.length) : (ls.set k l).flatten.Perm (l ++ ((ls.take k).flatten ++ (ls.drop (k + 1)).flatten)) := by
  rw [List.set_eq_take_append_cons_drop, if_pos h, List.flatten_append, List.flatten_cons]
  rw [← List.append_assoc, ← List.append_assoc]
  exact List.Perm.append_right _ List.perm_append_comm
theorem flat_at (ls : List (List Nat)) {k : Nat} (h : k < ls.length) : ls.flatten.Perm (ls[k] ++ ((ls.take k).flatten ++ (ls.drop (k + 1)).flatten)) := by
  have := flat_set ls ls[k] h
  rwa [List.set_getElem_self] at this
theorem e_lots (s : DSt) (n k : Nat) (hn : n ≤ 100) (h0 : 0 < k) (hk : k ≤ 100) : ∃ (s' : DSt) (ls : List (List Nat)), ls.length = k ∧ ls.flatten.Perm (List.range n) ∧ d_w_lots C [eSt s, .val (nI n), .val (nI k)] = .ok (.val (eLots ls)) [eSt s', .val (nI n), .val (nI k)] := by
  obtain ⟨s1, l, hl, ht⟩ := e_turned (C := C) s n (by omega)
  unfold d_w_lots b_w_lots
  have hr := rep_unit k (by omega)
  generalize hR : (List.replicate k ([] : List Nat)).map eLot = R at *
  simp [def0, cRet, cAndV, cNotV, cOp, cC, cV, cChain, cOrV, cOrT, cCall, cIfS, cNx, cBad, cSeq, cSet, cB, cAnd, cOr, cNot, cIf, cFz, cExpr, cMov, cYes, RE.bind, RE.toS, RS.then, evA, evP, Sm.Env.get, Sm.Env.put, Sm.Env.asg, getS, getM, startS, isCopy, lendC, backC, M.isHole, M.fz, M.view, Slot.cont, gN, gT, gsC, gsN, Sm.Env.wipe, Sm.Env.rest, wipeS, restS, cSl, asI, isLst, gApp, cMut, cPar, cPar3, cAsgG, LcOk, ForOk, RetOk, LcR, cLc, iSeq, itemsM, seqOf, gTupM, gLstM, valsOf, isi_int, isi_bool, isi_tup, isi_lst, len_tup, len_list, len_lst, g_sub, g_neg, g_add, g_lt, g_gt, g_le, g_ge, eq_int, ne_int, isN_int, isN_none, notN_int, notN_none, isN_tup, notN_tup, truD, cFor, hr, ht]
  subst hR
  generalize hF : forD _ _ _ _ = F
  have hlen : l.length = n := by rw [hl.length_eq]; simp
  obtain ⟨e', rfl, s2, ls, j4, j5, h1, h2, rfl⟩ := for_at hF (fun i e => ∃ (s2 : DSt) (ls : List (List Nat)) (j4 j5 : Sm.Slot), ls.length = k ∧ ls.flatten.Perm (l.take i) ∧ e = ⟨[.bor 0, .own (vv (nI n)), .own (vv (nI k)), .own (.lst (ls.map eLot)), j4, j5], [eSt s2, vv (nI n), vv (nI k)]⟩)
    ⟨s1, List.replicate k [], .own .hole, .own .hole, by simp, by simp, rfl⟩ (fun i hi e ⟨s2, ls, j4, j5, h1, h2, he⟩ => by
    subst he
    obtain ⟨r, s3, hr1, hd⟩ := e_drawn (C := C) s2 k h0 (by omega)
    have hrl : r < ls.length := by omega
    have hll : ls[r].length ≤ 100 := by
      have a1 := (flat_at ls hrl).length_eq
      have a2 := h2.length_eq
      rw [List.length_append] at a1
      rw [List.length_take] at a2
      omega
    have hx := ix_lotsM ls hrl
    have hc := cat_lot ls[r] [l[i]] (by simp; omega)
    have hs := set_lots ls (ls[r] ++ [l[i]]) hrl
    have hp : (ls.set r (ls[r] ++ [l[i]])).flatten.Perm (l.take (i + 1)) := by
      refine (flat_set ls _ hrl).trans ?_
      rw [List.take_succ_eq_append_getElem hi]
      have h3 := ((flat_at ls hrl).symm.trans h2)
      refine List.Perm.trans ?_ (List.Perm.append_right [l[i]] h3)
      rw [List.append_assoc, List.append_assoc]
      refine List.Perm.append_left _ ?_
      exact List.perm_append_comm
    generalize hX : ls.map eLot = X at *
    generalize hY : (ls.set r (ls[r] ++ [l[i]])).map eLot = Y at *
    generalize hZ : eLot (ls[r] ++ [l[i]]) = Z at *
    generalize hU : eLot ls[r] = U at *
    have hc' : gAdd [.val U, .val (.tuple [nI l[i]])] = some (.val Z) := hc
    simp [def0, cRet, cAndV, cNotV, cOp, cC, cV, cChain, cOrV, cOrT, cCall, cIfS, cNx, cBad, cSeq, cSet, cB, cAnd, cOr, cNot, cIf, cFz, cExpr, cMov, cYes, RE.bind, RE.toS, RS.then, evA, evP, Sm.Env.get, Sm.Env.put, Sm.Env.asg, getS, getM, startS, isCopy, lendC, backC, M.isHole, M.fz, M.view, Slot.cont, gN, gT, gsC, gsN, Sm.Env.wipe, Sm.Env.rest, wipeS, restS, cSl, asI, isLst, gApp, cMut, cPar, cPar3, cAsgG, LcOk, ForOk, RetOk, LcR, cLc, iSeq, itemsM, seqOf, gTupM, gLstM, valsOf, isi_int, isi_bool, isi_tup, isi_lst, len_tup, len_list, len_lst, g_sub, g_neg, g_add, g_lt, g_gt, g_le, g_ge, eq_int, ne_int, isN_int, isN_none, notN_int, notN_none, isN_tup, notN_tup, truD, hd, hx, hc', cSetIx, hs]
    exact ⟨s3, ls.set r (ls[r] ++ [l[i]]), by simpa using h1, hp, hY.symm, rfl, rfl, rfl, rfl⟩)
  refine ⟨s2, ls, h1, by rw [List.take_length] at h2; exact h2.trans hl, ?_⟩
  simp [def0, cRet, cAndV, cNotV, cOp, cC, cV, cChain, cOrV, cOrT, cCall, cIfS, cNx, cBad, cSeq, cSet, cB, cAnd, cOr, cNot, cIf, cFz, cExpr, cMov, cYes, RE.bind, RE.toS, RS.then, evA, evP, Sm.Env.get, Sm.Env.put, Sm.Env.asg, getS, getM, startS, isCopy, lendC, backC, M.isHole, M.fz, M.view, Slot.cont, gN, gT, gsC, gsN, Sm.Env.wipe, Sm.Env.rest, wipeS, restS, cSl, asI, isLst, gApp, cMut, cPar, cPar3, cAsgG, LcOk, ForOk, RetOk, LcR, cLc, iSeq, itemsM, seqOf, gTupM, gLstM, valsOf, isi_int, isi_bool, isi_tup, isi_lst, len_tup, len_list, len_lst, g_sub, g_neg, g_add, g_lt, g_gt, g_le, g_ge, eq_int, ne_int, isN_int, isN_none, notN_int, notN_none, isN_tup, notN_tup, truD, gTuple]
/-- what a drawn shelf is -/
structure Shelf (ps : List (Option Int)) (ls : List (List Nat)) (most lots : Nat) : Prop where
  pn : ps ≠ []
  pl : ps.length ≤ most
  pr : ∀ i, some i ∈ ps → 1 ≤ i ∧ i ≤ 99
  ln : 0 < ls.length
  ll : ls.length ≤ lots
  lp : ls.flatten.Perm (List.range ps.length)
theorem pick3 (a b c : Int) {r : Nat} (h : r < 3) : ∃ x, (x = a ∨ x = b ∨ x = c) ∧ gIx [.lst [.int a, .int b, .int c], .val (nI r)] = some (.val (.int x)) := by
  match r, h with
  | 0, _ => exact ⟨a, .inl rfl, rfl⟩
  | 1, _ => exact ⟨b, .inr (.inl rfl), rfl⟩
  | 2, _ => exact ⟨c, .inr (.inr rfl), rfl⟩
theorem e_shelf (s : DSt) (most lots : Nat) (h1 : 0 < most) (h2 : most ≤ 12) (h3 : 0 < lots) (h4 : lots ≤ 5) : ∃ (s' : DSt) (ps : List (Option Int)) (ls : List (List Nat)), Shelf ps ls most lots ∧ d_w_shelf C [eSt s, .val (nI most), .val (nI lots)] = .ok (.val (eSh ps ls)) [eSt s', .val (nI most), .val (nI lots)] := by
  obtain ⟨r1, s1, hr1, hd1⟩ := e_drawn (C := C) s most h1 (by omega)
  obtain ⟨r2, s2, hr2, hd2⟩ := e_drawn (C := C) s1 3 (by omega) (by omega)
  obtain ⟨r3, s3, hr3, hd3⟩ := e_drawn (C := C) s2 3 (by omega) (by omega)
  have hd2' : d_w_drawn C [eSt s1, .val (.int 3)] = .ok (.val (nI r2)) [eSt s2, .val (.int 3)] := hd2
  have hd3' : d_w_drawn C [eSt s2, .val (.int 3)] = .ok (.val (nI r3)) [eSt s3, .val (.int 3)] := hd3
  obtain ⟨x, hx, hix⟩ := pick3 2 9 99 hr2
  obtain ⟨y, hy, hiy⟩ := pick3 4 12 60 hr3
  obtain ⟨xn, rfl⟩ : ∃ xn : Nat, x = (xn : Int) := ⟨x.toNat, by omega⟩
  obtain ⟨yn, rfl⟩ : ∃ yn : Nat, y = (yn : Int) := ⟨y.toNat, by omega⟩
  have hxn : 0 < xn ∧ xn ≤ 99 := by omega
  have hyn : 0 < yn ∧ yn ≤ 60 := by omega
  clear hx hy
  have hn : int1 [.val (.int (1 + (r1 : Int)))] = some (1 + (r1 : Int)) := by
    have := int1_nat (n := 1 + r1) (by omega)
    simpa using this
  have hnn : (1 + (r1 : Int)).toNat = 1 + r1 := by omega
  unfold d_w_shelf b_w_shelf
  simp [def0, cRet, cAndV, cNotV, cOp, cC, cV, cChain, cOrV, cOrT, cCall, cIfS, cNx, cBad, cSeq, cSet, cB, cAnd, cOr, cNot, cIf, cFz, cExpr, cMov, cYes, RE.bind, RE.toS, RS.then, evA, evP, Sm.Env.get, Sm.Env.put, Sm.Env.asg, getS, getM, startS, isCopy, lendC, backC, M.isHole, M.fz, M.view, Slot.cont, gN, gT, gsC, gsN, Sm.Env.wipe, Sm.Env.rest, wipeS, restS, cSl, asI, isLst, gApp, cMut, cPar, cPar3, cAsgG, LcOk, ForOk, RetOk, LcR, cLc, iSeq, itemsM, seqOf, gTupM, gLstM, valsOf, isi_int, isi_bool, isi_tup, isi_lst, len_tup, len_list, len_lst, g_sub, g_neg, g_add, g_lt, g_gt, g_le, g_ge, eq_int, ne_int, isN_int, isN_none, notN_int, notN_none, isN_tup, notN_tup, truD, hd1, hd2', hix, hd3', hiy, iRng1D, hn, hnn, rng0_map]
  generalize hF : lcD _ _ _ _ _ _ _ = F
  obtain ⟨e', acc, rfl, s4, ps, rfl, hl, hp, rfl⟩ := lc_run hF (fun i e acc => ∃ (s4 : DSt) (ps : List (Option Int)), acc = ps.map eP ∧ ps.length = i ∧ (∀ j, some j ∈ ps → 1 ≤ j ∧ j ≤ 99) ∧ e = ⟨[.bor 0, .own (vv (nI most)), .own (vv (nI lots)), .own (vv (.int (1 + (r1 : Int)))), .own (vv (nI xn)), .own (vv (nI yn)), .own .hole, .own .hole], [eSt s4, vv (nI most), vv (nI lots)]⟩) (by simp; omega) ⟨s3, [], rfl, rfl, by simp, rfl⟩ (fun i hi e acc ⟨s4, ps, ha, hl, hp, he⟩ => by
    subst he
    subst ha
    refine ⟨by simpa using hl, ?_⟩
    obtain ⟨r4, s5, hr4, hd4⟩ := e_drawn (C := C) s4 yn hyn.1 (by omega)
    obtain ⟨r5, s6, hr5, hd5⟩ := e_drawn (C := C) s5 xn hxn.1 (by omega)
    by_cases h0 : r4 = 0
    · subst h0
      simp [def0, cRet, cAndV, cNotV, cOp, cC, cV, cChain, cOrV, cOrT, cCall, cIfS, cNx, cBad, cSeq, cSet, cB, cAnd, cOr, cNot, cIf, cFz, cExpr, cMov, cYes, RE.bind, RE.toS, RS.then, evA, evP, Sm.Env.get, Sm.Env.put, Sm.Env.asg, getS, getM, startS, isCopy, lendC, backC, M.isHole, M.fz, M.view, Slot.cont, gN, gT, gsC, gsN, Sm.Env.wipe, Sm.Env.rest, wipeS, restS, cSl, asI, isLst, gApp, cMut, cPar, cPar3, cAsgG, LcOk, ForOk, RetOk, LcR, cLc, iSeq, itemsM, seqOf, gTupM, gLstM, valsOf, isi_int, isi_bool, isi_tup, isi_lst, len_tup, len_list, len_lst, g_sub, g_neg, g_add, g_lt, g_gt, g_le, g_ge, eq_int, ne_int, isN_int, isN_none, notN_int, notN_none, isN_tup, notN_tup, truD, hd4]
      exact ⟨s5, ps ++ [none], by simp, by simp [hl], by simpa using hp, rfl, rfl, rfl, rfl⟩
    · skip
      simp [def0, cRet, cAndV, cNotV, cOp, cC, cV, cChain, cOrV, cOrT, cCall, cIfS, cNx, cBad, cSeq, cSet, cB, cAnd, cOr, cNot, cIf, cFz, cExpr, cMov, cYes, RE.bind, RE.toS, RS.then, evA, evP, Sm.Env.get, Sm.Env.put, Sm.Env.asg, getS, getM, startS, isCopy, lendC, backC, M.isHole, M.fz, M.view, Slot.cont, gN, gT, gsC, gsN, Sm.Env.wipe, Sm.Env.rest, wipeS, restS, cSl, asI, isLst, gApp, cMut, cPar, cPar3, cAsgG, LcOk, ForOk, RetOk, LcR, cLc, iSeq, itemsM, seqOf, gTupM, gLstM, valsOf, isi_int, isi_bool, isi_tup, isi_lst, len_tup, len_list, len_lst, g_sub, g_neg, g_add, g_lt, g_gt, g_le, g_ge, eq_int, ne_int, isN_int, isN_none, notN_int, notN_none, isN_tup, notN_tup, truD, hd4, h0, hd5]
      refine ⟨s6, ps ++ [some (1 + (r5 : Int))], by simp, by simp [hl], fun j hj => ?_, rfl, rfl, rfl, rfl⟩
      rcases List.mem_append.mp hj with z | z
      · exact hp j z
      · have : j = 1 + (r5 : Int) := by simpa using z
        omega)
  have hpl : ps.length = 1 + r1 := by simpa using hl
  obtain ⟨r6, s7, hr6, hd6⟩ := e_drawn (C := C) s4 lots h3 (by omega)
  obtain ⟨s8, ls, hll, hlp, hd7⟩ := e_lots (C := C) s7 (1 + r1) (1 + r6) (by omega) (by omega) (by omega)
  have hd7' : d_w_lots C [eSt s7, .val (.int (1 + (r1 : Int))), .val (.int (1 + (r6 : Int)))] = .ok (.val (eLots ls)) [eSt s8, .val (.int (1 + (r1 : Int))), .val (.int (1 + (r6 : Int)))] := by
    have e1 : nI (1 + r1) = .int (1 + (r1 : Int)) := by simp
    have e2 : nI (1 + r6) = .int (1 + (r6 : Int)) := by simp
    rw [e1, e2] at hd7
    exact hd7
  refine ⟨s8, ps, ls, ⟨fun z => by (subst z; simp at hpl; omega), by omega, hp, by omega, by omega, by rw [hpl]; exact hlp⟩, ?_⟩
  simp [def0, cRet, cAndV, cNotV, cOp, cC, cV, cChain, cOrV, cOrT, cCall, cIfS, cNx, cBad, cSeq, cSet, cB, cAnd, cOr, cNot, cIf, cFz, cExpr, cMov, cYes, RE.bind, RE.toS, RS.then, evA, evP, Sm.Env.get, Sm.Env.put, Sm.Env.asg, getS, getM, startS, isCopy, lendC, backC, M.isHole, M.fz, M.view, Slot.cont, gN, gT, gsC, gsN, Sm.Env.wipe, Sm.Env.rest, wipeS, restS, cSl, asI, isLst, gApp, cMut, cPar, cPar3, cAsgG, LcOk, ForOk, RetOk, LcR, cLc, iSeq, itemsM, seqOf, gTupM, gLstM, valsOf, isi_int, isi_bool, isi_tup, isi_lst, len_tup, len_list, len_lst, g_sub, g_neg, g_add, g_lt, g_gt, g_le, g_ge, eq_int, ne_int, isN_int, isN_none, notN_int, notN_none, isN_tup, notN_tup, truD, gTuple, hd6, hd7']
end
end Wk

namespace Wk
noncomputable section
open PySem PySem.Spec Sm Mp
variable {C : Str → Addr}
def without (b : Nat) (l : List Nat) : List Nat := l.filter fun x => !decide (x = b)
def placedL (ls : List (List Nat)) (b k : Nat) (fr : Bool) : List (List Nat) := (ls.map (without b)).set k (if fr then b :: (without b (ls.getD k [])) else without b (ls.getD k []) ++ [b])
abbrev eEnd (fr : Bool) : PyData := .str (if fr then "first" else "last")
theorem eq_ff : gEq [.val (.str "first"), .val (.str "first")] = some (.val (.bool true)) := by
  simp [gEq, M.view, eqOk, scalD, PyData.eqv]
theorem eq_lf : gEq [.val (.str "last"), .val (.str "first")] = some (.val (.bool false)) := by
  simp [gEq, M.view, eqOk, scalD, PyData.eqv]
  decide
theorem eq_fE : gEq [.val (eEnd true), .val (.str "first")] = some (.val (.bool true)) := eq_ff
theorem eq_lE : gEq [.val (eEnd false), .val (.str "first")] = some (.val (.bool false)) := eq_lf
theorem e_wplaced (ls : List (List Nat)) (b k : Nat) (fr : Bool) (hk : k < ls.length) (hz : ls.length ≤ 1000) (hl : ∀ l ∈ ls, l.length ≤ 900) : d_w_placed C [.val (eLots ls), .val (nI b), .val (nI k), .val (eEnd fr)] = .ok (.val (eLots (placedL ls b k fr))) [.val (eLots ls), .val (nI b), .val (nI k), .val (eEnd fr)] := by
  unfold d_w_placed b_w_placed
  simp [def0, cRet, cAndV, cNotV, cOp, cC, cV, cChain, cOrV, cOrT, cCall, cIfS, cNx, cBad, cSeq, cSet, cB, cAnd, cOr, cNot, cIf, cFz, cExpr, cMov, cYes, RE.bind, RE.toS, RS.then, evA, evP, Sm.Env.get, Sm.Env.put, Sm.Env.asg, getS, getM, startS, isCopy, lendC, backC, M.isHole, M.fz, M.view, Slot.cont, gN, gT, gsC, gsN, Sm.Env.wipe, Sm.Env.rest, wipeS, restS, cSl, asI, isLst, gApp, cMut, cPar, cPar3, cAsgG, LcOk, ForOk, RetOk, LcR, cLc, iSeq, itemsM, seqOf, gTupM, gLstM, valsOf, isi_int, isi_bool, isi_tup, isi_lst, len_tup, len_list, len_lst, g_sub, g_neg, g_add, g_lt, g_gt, g_le, g_ge, eq_int, ne_int, isN_int, isN_none, notN_int, notN_none, isN_tup, notN_tup, truD]
  rw [lc_ofY (fun l => eLot (without b l)) (fun l hl' => by
    simp [def0, cRet, cAndV, cNotV, cOp, cC, cV, cChain, cOrV, cOrT, cCall, cIfS, cNx, cBad, cSeq, cSet, cB, cAnd, cOr, cNot, cIf, cFz, cExpr, cMov, cYes, RE.bind, RE.toS, RS.then, evA, evP, Sm.Env.get, Sm.Env.put, Sm.Env.asg, getS, getM, startS, isCopy, lendC, backC, M.isHole, M.fz, M.view, Slot.cont, gN, gT, gsC, gsN, Sm.Env.wipe, Sm.Env.rest, wipeS, restS, cSl, asI, isLst, gApp, cMut, cPar, cPar3, cAsgG, LcOk, ForOk, RetOk, LcR, cLc, iSeq, itemsM, seqOf, gTupM, gLstM, valsOf, isi_int, isi_bool, isi_tup, isi_lst, len_tup, len_list, len_lst, g_sub, g_neg, g_add, g_lt, g_gt, g_le, g_ge, eq_int, ne_int, isN_int, isN_none, notN_int, notN_none, isN_tup, notN_tup, truD]
    rw [lc_of (fun x => !decide (x = b)) nI (fun x hx => by
      by_cases h : x = b
      · simp [def0, cRet, cAndV, cNotV, cOp, cC, cV, cChain, cOrV, cOrT, cCall, cIfS, cNx, cBad, cSeq, cSet, cB, cAnd, cOr, cNot, cIf, cFz, cExpr, cMov, cYes, RE.bind, RE.toS, RS.then, evA, evP, Sm.Env.get, Sm.Env.put, Sm.Env.asg, getS, getM, startS, isCopy, lendC, backC, M.isHole, M.fz, M.view, Slot.cont, gN, gT, gsC, gsN, Sm.Env.wipe, Sm.Env.rest, wipeS, restS, cSl, asI, isLst, gApp, cMut, cPar, cPar3, cAsgG, LcOk, ForOk, RetOk, LcR, cLc, iSeq, itemsM, seqOf, gTupM, gLstM, valsOf, isi_int, isi_bool, isi_tup, isi_lst, len_tup, len_list, len_lst, g_sub, g_neg, g_add, g_lt, g_gt, g_le, g_ge, eq_int, ne_int, isN_int, isN_none, notN_int, notN_none, isN_tup, notN_tup, truD, h]
      · have h' : ¬ (x : Int) = (b : Int) := by omega
        simp [def0, cRet, cAndV, cNotV, cOp, cC, cV, cChain, cOrV, cOrT, cCall, cIfS, cNx, cBad, cSeq, cSet, cB, cAnd, cOr, cNot, cIf, cFz, cExpr, cMov, cYes, RE.bind, RE.toS, RS.then, evA, evP, Sm.Env.get, Sm.Env.put, Sm.Env.asg, getS, getM, startS, isCopy, lendC, backC, M.isHole, M.fz, M.view, Slot.cont, gN, gT, gsC, gsN, Sm.Env.wipe, Sm.Env.rest, wipeS, restS, cSl, asI, isLst, gApp, cMut, cPar, cPar3, cAsgG, LcOk, ForOk, RetOk, LcR, cLc, iSeq, itemsM, seqOf, gTupM, gLstM, valsOf, isi_int, isi_bool, isi_tup, isi_lst, len_tup, len_list, len_lst, g_sub, g_neg, g_add, g_lt, g_gt, g_le, g_ge, eq_int, ne_int, isN_int, isN_none, notN_int, notN_none, isN_tup, notN_tup, truD, h, h']) (by have := hl l hl'; omega)]
    simp [def0, cRet, cAndV, cNotV, cOp, cC, cV, cChain, cOrV, cOrT, cCall, cIfS, cNx, cBad, cSeq, cSet, cB, cAnd, cOr, cNot, cIf, cFz, cExpr, cMov, cYes, RE.bind, RE.toS, RS.then, evA, evP, Sm.Env.get, Sm.Env.put, Sm.Env.asg, getS, getM, startS, isCopy, lendC, backC, M.isHole, M.fz, M.view, Slot.cont, gN, gT, gsC, gsN, Sm.Env.wipe, Sm.Env.rest, wipeS, restS, cSl, asI, isLst, gApp, cMut, cPar, cPar3, cAsgG, LcOk, ForOk, RetOk, LcR, cLc, iSeq, itemsM, seqOf, gTupM, gLstM, valsOf, isi_int, isi_bool, isi_tup, isi_lst, len_tup, len_list, len_lst, g_sub, g_neg, g_add, g_lt, g_gt, g_le, g_ge, eq_int, ne_int, isN_int, isN_none, notN_int, notN_none, isN_tup, notN_tup, truD, gTuple, without]) (by omega)]
  have hkw : k < (ls.map (without b)).length := by simpa using hk
  have hx := ix_lotsM (ls.map (without b)) hkw
  have hw : (ls.map (without b))[k] = without b (ls.getD k []) := by simp [hk]
  have hlen : (without b (ls.getD k [])).length ≤ 900 := by
    rw [getD_lt hk]
    exact Nat.le_trans (List.length_filter_le _ _) (hl _ (List.getElem_mem hk))
  rw [hw] at hx
  have hm : ls.map (fun l => eLot (without b l)) = (ls.map (without b)).map eLot := by rw [List.map_map]; rfl
  rw [hm]
  unfold placedL
  cases fr with
  | true =>
    have hc := cat_lot [b] (without b (ls.getD k [])) (by rw [List.length_singleton]; omega)
    have hs := set_lots (ls.map (without b)) (b :: without b (ls.getD k [])) hkw
    generalize without b (ls.getD k []) = wl at *
    generalize ls.map (without b) = ws at *
    have hc' : gAdd [.val (.tuple [nI b]), .val (eLot wl)] = some (.val (eLot (b :: wl))) := hc
    generalize hU : eLot (b :: wl) = U at *
    generalize hV : eLot wl = V at *
    generalize hX : ws.map eLot = X at *
    generalize hY : (ws.set k (b :: wl)).map eLot = Y at *
    have hY2 : Y = (ws.set k (if true = true then b :: wl else wl ++ [b])).map eLot := hY.symm
    simp [def0, cRet, cAndV, cNotV, cOp, cC, cV, cChain, cOrV, cOrT, cCall, cIfS, cNx, cBad, cSeq, cSet, cB, cAnd, cOr, cNot, cIf, cFz, cExpr, cMov, cYes, RE.bind, RE.toS, RS.then, evA, evP, Sm.Env.get, Sm.Env.put, Sm.Env.asg, getS, getM, startS, isCopy, lendC, backC, M.isHole, M.fz, M.view, Slot.cont, gN, gT, gsC, gsN, Sm.Env.wipe, Sm.Env.rest, wipeS, restS, cSl, asI, isLst, gApp, cMut, cPar, cPar3, cAsgG, LcOk, ForOk, RetOk, LcR, cLc, iSeq, itemsM, seqOf, gTupM, gLstM, valsOf, isi_int, isi_bool, isi_tup, isi_lst, len_tup, len_list, len_lst, g_sub, g_neg, g_add, g_lt, g_gt, g_le, g_ge, eq_int, ne_int, isN_int, isN_none, notN_int, notN_none, isN_tup, notN_tup, truD, eq_fE, hx, hc', cSetIx, hs, gTuple]
    rw [← hY]
    simp
  | false =>
    have hc := cat_lot (without b (ls.getD k [])) [b] (by rw [List.length_singleton]; omega)
    have hs := set_lots (ls.map (without b)) (without b (ls.getD k []) ++ [b]) hkw
    generalize without b (ls.getD k []) = wl at *
    generalize ls.map (without b) = ws at *
    have hc' : gAdd [.val (eLot wl), .val (.tuple [nI b])] = some (.val (eLot (wl ++ [b]))) := hc
    generalize hU : eLot (wl ++ [b]) = U at *
    generalize hV : eLot wl = V at *
    generalize hX : ws.map eLot = X at *
    generalize hY : (ws.set k (wl ++ [b])).map eLot = Y at *
    simp [def0, cRet, cAndV, cNotV, cOp, cC, cV, cChain, cOrV, cOrT, cCall, cIfS, cNx, cBad, cSeq, cSet, cB, cAnd, cOr, cNot, cIf, cFz, cExpr, cMov, cYes, RE.bind, RE.toS, RS.then, evA, evP, Sm.Env.get, Sm.Env.put, Sm.Env.asg, getS, getM, startS, isCopy, lendC, backC, M.isHole, M.fz, M.view, Slot.cont, gN, gT, gsC, gsN, Sm.Env.wipe, Sm.Env.rest, wipeS, restS, cSl, asI, isLst, gApp, cMut, cPar, cPar3, cAsgG, LcOk, ForOk, RetOk, LcR, cLc, iSeq, itemsM, seqOf, gTupM, gLstM, valsOf, isi_int, isi_bool, isi_tup, isi_lst, len_tup, len_list, len_lst, g_sub, g_neg, g_add, g_lt, g_gt, g_le, g_ge, eq_int, ne_int, isN_int, isN_none, notN_int, notN_none, isN_tup, notN_tup, truD, eq_lE, hx, hc', cSetIx, hs, gTuple]
    rw [← hY]
    simp
theorem placed_len (ls : List (List Nat)) (b k : Nat) (fr : Bool) : (placedL ls b k fr).length = ls.length := by simp [placedL]
theorem placed_perm (ls : List (List Nat)) (n b k : Nat) (fr : Bool) (hp : ls.flatten.Perm (List.range n)) (hb : b < n) (hk : k < ls.length) : (placedL ls b k fr).flatten.Perm (List.range n) := by
  have hkw : k < (ls.map (without b)).length := by simpa using hk
  have h1 := flat_set (ls.map (without b)) (if fr then b :: (without b (ls.getD k [])) else without b (ls.getD k []) ++ [b]) hkw
  have h2 := flat_at (ls.map (without b)) hkw
  have hw : (ls.map (without b))[k] = without b (ls.getD k []) := by simp [hk]
  rw [hw] at h2
  have h3 : (ls.map (without b)).flatten = ls.flatten.filter fun x => !decide (x = b) := by
    rw [List.filter_flatten]; rfl
  have h4 : (b :: (ls.map (without b)).flatten).Perm (List.range n) := by
    rw [h3]
    have h5 : (ls.flatten.filter fun x => !decide (x = b)).Perm ((List.range n).filter fun x => !decide (x = b)) := hp.filter _
    refine (List.Perm.cons b h5).trans ?_
    have h6 : (List.range n).filter (fun x => !decide (x = b)) = (List.range n).erase b := by
      rw [List.Nodup.erase_eq_filter List.nodup_range]
      congr 1
    rw [h6]
    exact (List.perm_cons_erase (List.mem_range.mpr hb)).symm
  refine h1.trans (List.Perm.trans ?_ (List.Perm.trans (List.Perm.cons b h2.symm) h4))
  cases fr with
  | true => simp
  | false =>
    simp only [Bool.false_eq_true, if_false]
    rw [List.append_assoc]
    exact List.perm_middle
theorem pick2 (a b : PyData) {r : Nat} (h : r < 2) : gIx [.lst [a, b], .val (nI r)] = some (.val (if r = 0 then a else b)) := by
  match r, h with
  | 0, _ => rfl
  | 1, _ => rfl
theorem pickE {r : Nat} (h : r < 2) : ∃ fr, gIx [.lst [.str "first", .str "last"], .val (nI r)] = some (.val (eEnd fr)) := by
  match r, h with
  | 0, _ => exact ⟨true, rfl⟩
  | 1, _ => exact ⟨false, rfl⟩
theorem perm_len {ls : List (List Nat)} {n : Nat} (h : ls.flatten.Perm (List.range n)) : ∀ l ∈ ls, l.length ≤ n := by
  intro l hl
  obtain ⟨k, hk, rfl⟩ := List.mem_iff_getElem.mp hl
  have a1 := (flat_at ls hk).length_eq
  have a2 := h.length_eq
  rw [List.length_append] at a1
  rw [List.length_range] at a2
  omega
theorem e_goal (s : DSt) (ps : List (Option Int)) (ls : List (List Nat)) (S : Shelf ps ls 12 5) : ∃ (s' : DSt) (gl : List (List Nat)), gl.length = ls.length ∧ gl.flatten.Perm (List.range ps.length) ∧ d_w_goal C [eSt s, .val (eSh ps ls)] = .ok (.val (eLots gl)) [eSt s', .val (eSh ps ls)] := by
  have hp := S.pl
  have hp0 : 0 < ps.length := List.length_pos_iff.mpr S.pn
  have hl := S.ll
  have hl0 := S.ln
  obtain ⟨w, s1, hw, hd1⟩ := e_drawn (C := C) s 6 (by omega) (by omega)
  have hd1' : d_w_drawn C [eSt s, .val (.int 6)] = .ok (.val (nI w)) [eSt s1, .val (.int 6)] := hd1
  unfold d_w_goal b_w_goal
  by_cases hw0 : w = 0
  · subst hw0
    obtain ⟨s2, gl, h1, h2, h3⟩ := e_lots (C := C) s1 ps.length ls.length (by omega) hl0 (by omega)
    refine ⟨s2, gl, h1, h2, ?_⟩
    simp [def0, cRet, cAndV, cNotV, cOp, cC, cV, cChain, cOrV, cOrT, cCall, cIfS, cNx, cBad, cSeq, cSet, cB, cAnd, cOr, cNot, cIf, cFz, cExpr, cMov, cYes, RE.bind, RE.toS, RS.then, evA, evP, Sm.Env.get, Sm.Env.put, Sm.Env.asg, getS, getM, startS, isCopy, lendC, backC, M.isHole, M.fz, M.view, Slot.cont, gN, gT, gsC, gsN, Sm.Env.wipe, Sm.Env.rest, wipeS, restS, cSl, asI, isLst, gApp, cMut, cPar, cPar3, cAsgG, LcOk, ForOk, RetOk, LcR, cLc, iSeq, itemsM, seqOf, gTupM, gLstM, valsOf, isi_int, isi_bool, isi_tup, isi_lst, len_tup, len_list, len_lst, g_sub, g_neg, g_add, g_lt, g_gt, g_le, g_ge, eq_int, ne_int, isN_int, isN_none, notN_int, notN_none, isN_tup, notN_tup, truD, hd1', h3]
  · obtain ⟨r2, s2, hr2, hd2⟩ := e_drawn (C := C) s1 2 (by omega) (by omega)
    have hd2' : d_w_drawn C [eSt s1, .val (.int 2)] = .ok (.val (nI r2)) [eSt s2, .val (.int 2)] := hd2
    have hpk := pick2 (.int 4) (.int (2 * (ps.length : Int) + 1)) hr2
    obtain ⟨m, hm0, hm1, hm⟩ : ∃ m : Nat, 0 < m ∧ m ≤ 100 ∧ (if r2 = 0 then PyData.int 4 else PyData.int (2 * (ps.length : Int) + 1)) = nI m := by
      by_cases h : r2 = 0
      · exact ⟨4, by omega, by omega, by rw [if_pos h]; rfl⟩
      · exact ⟨2 * ps.length + 1, by omega, by omega, by rw [if_neg h]; simp⟩
    rw [hm] at hpk
    obtain ⟨t, s3, ht, hd3⟩ := e_drawn (C := C) s2 m hm0 (by omega)
    have hi := int1_nat (n := t) (by omega)
    have hmul : gMulV [.val (.int 2), .val (.int (ps.length : Int))] = some (.val (.int (2 * (ps.length : Int)))) := g_mul (by decide)
    simp [def0, cRet, cAndV, cNotV, cOp, cC, cV, cChain, cOrV, cOrT, cCall, cIfS, cNx, cBad, cSeq, cSet, cB, cAnd, cOr, cNot, cIf, cFz, cExpr, cMov, cYes, RE.bind, RE.toS, RS.then, evA, evP, Sm.Env.get, Sm.Env.put, Sm.Env.asg, getS, getM, startS, isCopy, lendC, backC, M.isHole, M.fz, M.view, Slot.cont, gN, gT, gsC, gsN, Sm.Env.wipe, Sm.Env.rest, wipeS, restS, cSl, asI, isLst, gApp, cMut, cPar, cPar3, cAsgG, LcOk, ForOk, RetOk, LcR, cLc, iSeq, itemsM, seqOf, gTupM, gLstM, valsOf, isi_int, isi_bool, isi_tup, isi_lst, len_tup, len_list, len_lst, g_sub, g_neg, g_add, g_lt, g_gt, g_le, g_ge, eq_int, ne_int, isN_int, isN_none, notN_int, notN_none, isN_tup, notN_tup, truD, hd1', hw0, cFor, iRng1D, hmul, hd2', hpk, hd3, hi, rng0_map]
    generalize hF : forD _ _ _ _ = F
    obtain ⟨e', rfl, s4, gl, j5, j6, j7, h1, h2, rfl⟩ := for_at hF (fun i e => ∃ (s4 : DSt) (gl : List (List Nat)) (j5 j6 j7 : Sm.Slot), gl.length = ls.length ∧ gl.flatten.Perm (List.range ps.length) ∧ e = ⟨[.bor 0, .own (vv (eSh ps ls)), .own (vv (ePs ps)), .own (vv (eLots gl)), .own (vv (nI w)), j5, j6, j7], [eSt s4, vv (eSh ps ls)]⟩)
      ⟨s3, ls, .own .hole, .own .hole, .own .hole, rfl, S.lp, rfl⟩ (fun i hi e ⟨s4, gl, j5, j6, j7, h1, h2, he⟩ => by
      subst he
      obtain ⟨b, s5, hb, hd5⟩ := e_drawn (C := C) s4 ps.length hp0 (by omega)
      obtain ⟨k, s6, hk, hd6⟩ := e_drawn (C := C) s5 gl.length (by omega) (by omega)
      obtain ⟨r, s7, hr, hd7⟩ := e_drawn (C := C) s6 2 (by omega) (by omega)
      have hd7' : d_w_drawn C [eSt s6, .val (.int 2)] = .ok (.val (nI r)) [eSt s7, .val (.int 2)] := hd7
      obtain ⟨fr, hfr⟩ := pickE hr
      have hpl := e_wplaced (C := C) gl b k fr hk (by omega) (fun l hl => by have := perm_len h2 l hl; omega)
      have hg1 := placed_len gl b k fr
      have hg2 := placed_perm gl ps.length b k fr h2 hb hk
      have hx := ix_ps ps hb
      generalize hG : placedL gl b k fr = g2 at *
      generalize hE : eEnd fr = E at *
      cases q : pr ps b with
      | some p =>
        simp [def0, cRet, cAndV, cNotV, cOp, cC, cV, cChain, cOrV, cOrT, cCall, cIfS, cNx, cBad, cSeq, cSet, cB, cAnd, cOr, cNot, cIf, cFz, cExpr, cMov, cYes, RE.bind, RE.toS, RS.then, evA, evP, Sm.Env.get, Sm.Env.put, Sm.Env.asg, getS, getM, startS, isCopy, lendC, backC, M.isHole, M.fz, M.view, Slot.cont, gN, gT, gsC, gsN, Sm.Env.wipe, Sm.Env.rest, wipeS, restS, cSl, asI, isLst, gApp, cMut, cPar, cPar3, cAsgG, LcOk, ForOk, RetOk, LcR, cLc, iSeq, itemsM, seqOf, gTupM, gLstM, valsOf, isi_int, isi_bool, isi_tup, isi_lst, len_tup, len_list, len_lst, g_sub, g_neg, g_add, g_lt, g_gt, g_le, g_ge, eq_int, ne_int, isN_int, isN_none, notN_int, notN_none, isN_tup, notN_tup, truD, hd5, hd6, hx, q, hd7', hfr, hpl]
        exact ⟨s7, g2, by omega, hg2, rfl, rfl, rfl, rfl, rfl⟩
      | none =>
        have hri : (List.range t)[i] = i := by simp
        rw [hri]
        by_cases c1 : w = 1
        · by_cases c2 : i = 2
          · subst c1
            subst c2
            simp [def0, cRet, cAndV, cNotV, cOp, cC, cV, cChain, cOrV, cOrT, cCall, cIfS, cNx, cBad, cSeq, cSet, cB, cAnd, cOr, cNot, cIf, cFz, cExpr, cMov, cYes, RE.bind, RE.toS, RS.then, evA, evP, Sm.Env.get, Sm.Env.put, Sm.Env.asg, getS, getM, startS, isCopy, lendC, backC, M.isHole, M.fz, M.view, Slot.cont, gN, gT, gsC, gsN, Sm.Env.wipe, Sm.Env.rest, wipeS, restS, cSl, asI, isLst, gApp, cMut, cPar, cPar3, cAsgG, LcOk, ForOk, RetOk, LcR, cLc, iSeq, itemsM, seqOf, gTupM, gLstM, valsOf, isi_int, isi_bool, isi_tup, isi_lst, len_tup, len_list, len_lst, g_sub, g_neg, g_add, g_lt, g_gt, g_le, g_ge, eq_int, ne_int, isN_int, isN_none, notN_int, notN_none, isN_tup, notN_tup, truD, hd5, hd6, hx, q, hd7', hfr, hpl]
            exact ⟨s7, g2, by omega, hg2, rfl, rfl, rfl, rfl, rfl⟩
          · have c2' : ¬ (i : Int) = 2 := by omega
            subst c1
            simp [def0, cRet, cAndV, cNotV, cOp, cC, cV, cChain, cOrV, cOrT, cCall, cIfS, cNx, cBad, cSeq, cSet, cB, cAnd, cOr, cNot, cIf, cFz, cExpr, cMov, cYes, RE.bind, RE.toS, RS.then, evA, evP, Sm.Env.get, Sm.Env.put, Sm.Env.asg, getS, getM, startS, isCopy, lendC, backC, M.isHole, M.fz, M.view, Slot.cont, gN, gT, gsC, gsN, Sm.Env.wipe, Sm.Env.rest, wipeS, restS, cSl, asI, isLst, gApp, cMut, cPar, cPar3, cAsgG, LcOk, ForOk, RetOk, LcR, cLc, iSeq, itemsM, seqOf, gTupM, gLstM, valsOf, isi_int, isi_bool, isi_tup, isi_lst, len_tup, len_list, len_lst, g_sub, g_neg, g_add, g_lt, g_gt, g_le, g_ge, eq_int, ne_int, isN_int, isN_none, notN_int, notN_none, isN_tup, notN_tup, truD, hd5, hd6, hx, q, c2, c2']
            exact ⟨s6, gl, h1, h2, rfl, rfl, rfl, rfl, rfl⟩
        · have c1' : ¬ (w : Int) = 1 := by omega
          simp [def0, cRet, cAndV, cNotV, cOp, cC, cV, cChain, cOrV, cOrT, cCall, cIfS, cNx, cBad, cSeq, cSet, cB, cAnd, cOr, cNot, cIf, cFz, cExpr, cMov, cYes, RE.bind, RE.toS, RS.then, evA, evP, Sm.Env.get, Sm.Env.put, Sm.Env.asg, getS, getM, startS, isCopy, lendC, backC, M.isHole, M.fz, M.view, Slot.cont, gN, gT, gsC, gsN, Sm.Env.wipe, Sm.Env.rest, wipeS, restS, cSl, asI, isLst, gApp, cMut, cPar, cPar3, cAsgG, LcOk, ForOk, RetOk, LcR, cLc, iSeq, itemsM, seqOf, gTupM, gLstM, valsOf, isi_int, isi_bool, isi_tup, isi_lst, len_tup, len_list, len_lst, g_sub, g_neg, g_add, g_lt, g_gt, g_le, g_ge, eq_int, ne_int, isN_int, isN_none, notN_int, notN_none, isN_tup, notN_tup, truD, hd5, hd6, hx, q, c1, c1']
          exact ⟨s6, gl, h1, h2, rfl, rfl, rfl, rfl, rfl⟩)
    refine ⟨s4, gl, h1, h2, ?_⟩
    simp [def0, cRet, cAndV, cNotV, cOp, cC, cV, cChain, cOrV, cOrT, cCall, cIfS, cNx, cBad, cSeq, cSet, cB, cAnd, cOr, cNot, cIf, cFz, cExpr, cMov, cYes, RE.bind, RE.toS, RS.then, evA, evP, Sm.Env.get, Sm.Env.put, Sm.Env.asg, getS, getM, startS, isCopy, lendC, backC, M.isHole, M.fz, M.view, Slot.cont, gN, gT, gsC, gsN, Sm.Env.wipe, Sm.Env.rest, wipeS, restS, cSl, asI, isLst, gApp, cMut, cPar, cPar3, cAsgG, LcOk, ForOk, RetOk, LcR, cLc, iSeq, itemsM, seqOf, gTupM, gLstM, valsOf, isi_int, isi_bool, isi_tup, isi_lst, len_tup, len_list, len_lst, g_sub, g_neg, g_add, g_lt, g_gt, g_le, g_ge, eq_int, ne_int, isN_int, isN_none, notN_int, notN_none, isN_tup, notN_tup, truD]
end
end Wk

namespace Wk
noncomputable section
open PySem PySem.Spec Sm Mp
variable {C : Str → Addr}
/-! ### spare, wishes -/
theorem pr_set (ps : List (Option Int)) (b x : Nat) : pr (ps.set b none) x = if x = b then none else pr ps x := by
  unfold pr
  rw [List.getElem?_set]
  by_cases h : x = b
  · subst h
    rw [if_pos rfl, if_pos rfl]
    by_cases h2 : x < ps.length
    · rw [if_pos h2]; rfl
    · rw [if_neg h2]; rfl
  · rw [if_neg (fun z => h z.symm), if_neg h]
theorem Good.drop {ps ls gl} (G : Good ps ls gl) (b : Nat) : Good (ps.set b none) ls gl := by
  refine ⟨fun z => G.pn ?_, by simpa using G.pl, fun i hi => ?_, by simpa using G.l, by simpa using G.g, G.e⟩
  · have := congrArg List.length z
    exact List.eq_nil_of_length_eq_zero (by simpa using this)
  · rcases List.mem_or_eq_of_mem_set hi with z | z
    · exact G.pr i z
    · cases z
def spareAt (ps : List (Option Int)) (ls gl : List (List Nat)) (b : Nat) : Bool :=
  decide (pr ps b ≠ none) && (decide (barOf (ps.set b none) ls gl = .none) && decide (costOf (ps.set b none) ls gl = costOf ps ls gl))
def spareOf (ps : List (Option Int)) (ls gl : List (List Nat)) : List Nat := (List.range ps.length).filter (spareAt ps ls gl)
theorem cat_ps (a b : List (Option Int)) (h : a.length + b.length ≤ 1000) : gAdd [.val (ePs a), .val (ePs b)] = some (.val (ePs (a ++ b))) := by
  have h1 : gCatT [.val (ePs a), .val (ePs b)] = some (.val (.tuple (a.map eP ++ b.map eP))) := by
    show (if (a.map eP).length + (b.map eP).length ≤ 16777216 then _ else _) = _
    rw [if_pos (by simp; omega)]
  have e : gAdd [.val (ePs a), .val (ePs b)] = gCatT [.val (ePs a), .val (ePs b)] := by
    simp only [gAdd, Sm.orM, gI, gII]
    rw [h1]
  rw [e, h1, ← List.map_append]
theorem filter_succ {α : Type} (p : α → Bool) (l : List α) {i : Nat} (h : i < l.length) : (l.take (i + 1)).filter p = (l.take i).filter p ++ (if p l[i] then [l[i]] else []) := by
  rw [List.take_succ_eq_append_getElem h, List.filter_append]
  congr 1
  by_cases q : p l[i] = true
  · rw [if_pos q, List.filter_cons_of_pos q]; rfl
  · rw [if_neg q, List.filter_cons_of_neg q]; rfl
theorem e_spare {ps ls gl} (G : Good ps ls gl) (hb : barOf ps ls gl = .none) : d_spare C [.val (eSh ps ls), .val (eLots gl)] = .ok (.val (.list ((spareOf ps ls gl).map nI))) [.val (eSh ps ls), .val (eLots gl)] := by
  have hpl := G.pl
  unfold d_spare b_spare
  simp [def0, cRet, cAndV, cNotV, cOp, cC, cV, cChain, cOrV, cOrT, cCall, cIfS, cNx, cBad, cSeq, cSet, cB, cAnd, cOr, cNot, cIf, cFz, cExpr, cMov, cYes, RE.bind, RE.toS, RS.then, evA, evP, Sm.Env.get, Sm.Env.put, Sm.Env.asg, getS, getM, startS, isCopy, lendC, backC, M.isHole, M.fz, M.view, Slot.cont, gN, gT, gsC, gsN, Sm.Env.wipe, Sm.Env.rest, wipeS, restS, cSl, asI, isLst, gApp, cMut, cPar, cPar3, cAsgG, LcOk, ForOk, RetOk, LcR, cLc, iSeq, itemsM, seqOf, gTupM, gLstM, valsOf, isi_int, isi_bool, isi_tup, isi_lst, len_tup, len_list, len_lst, g_sub, g_neg, g_add, g_lt, g_gt, g_le, g_ge, eq_int, ne_int, isN_int, isN_none, notN_int, notN_none, isN_tup, notN_tup, truD, e_task_of G, cMeth, ok_may, e_may G, hb, ix_sh0, cFor, enum_map, ps_zip, Function.comp_def]
  generalize hF : forD _ _ _ _ = F
  obtain ⟨e', rfl, j5, j6, j7, rfl⟩ := for_at hF (fun i e => ∃ j5 j6 j7 : Sm.Slot, e = ⟨[.own (vv (eSh ps ls)), .own (vv (eLots gl)), .own (task C ps ls gl), .own (.lst (((List.range i).filter (spareAt ps ls gl)).map nI)), .own (vv (ePs ps)), j5, j6, j7], [vv (eSh ps ls), vv (eLots gl)]⟩) ⟨.own .hole, .own .hole, .own .hole, rfl⟩ (fun i hi e ⟨j5, j6, j7, he⟩ => by
    subst he
    have hi' : i < ps.length := by simpa using hi
    have hr : (List.range ps.length)[i] = i := by simp
    rw [List.range_succ, List.filter_append, hr]
    have hacc : (((List.range i).filter (spareAt ps ls gl)).map nI).length < 16777216 := by
      rw [List.length_map]
      refine Nat.lt_of_le_of_lt (List.length_filter_le _ _) ?_
      rw [List.length_range]; omega
    generalize hA : ((List.range i).filter (spareAt ps ls gl)).map nI = A at *
    cases q : pr ps i with
    | none =>
      have hs : spareAt ps ls gl i = false := by simp [spareAt, q]
      simp [def0, cRet, cAndV, cNotV, cOp, cC, cV, cChain, cOrV, cOrT, cCall, cIfS, cNx, cBad, cSeq, cSet, cB, cAnd, cOr, cNot, cIf, cFz, cExpr, cMov, cYes, RE.bind, RE.toS, RS.then, evA, evP, Sm.Env.get, Sm.Env.put, Sm.Env.asg, getS, getM, startS, isCopy, lendC, backC, M.isHole, M.fz, M.view, Slot.cont, gN, gT, gsC, gsN, Sm.Env.wipe, Sm.Env.rest, wipeS, restS, cSl, asI, isLst, gApp, cMut, cPar, cPar3, cAsgG, LcOk, ForOk, RetOk, LcR, cLc, iSeq, itemsM, seqOf, gTupM, gLstM, valsOf, isi_int, isi_bool, isi_tup, isi_lst, len_tup, len_list, len_lst, g_sub, g_neg, g_add, g_lt, g_gt, g_le, g_ge, eq_int, ne_int, isN_int, isN_none, notN_int, notN_none, isN_tup, notN_tup, truD, q, hs, hA]
    | some p =>
      have G2 := G.drop i
      have s1 : gSl none (some (i : Int)) [.val (ePs ps)] = some (.val (ePs (ps.take i))) := by
        rw [sl_to (by simp; omega), ← List.map_take]
      have s2 : gSl (some ((i : Int) + 1)) none [.val (ePs ps)] = some (.val (ePs (ps.drop (i + 1)))) := by
        have := sl_from (ds := ps.map eP) (a := i + 1) (by simp; omega)
        rw [← List.map_drop] at this
        exact this
      have c1 : gAdd [.val (ePs (ps.take i)), .val (.tuple [.none])] = some (.val (ePs (ps.take i ++ [none]))) := cat_ps (ps.take i) [none] (by rw [List.length_take, List.length_singleton]; omega)
      have c2 : gAdd [.val (ePs (ps.take i ++ [none])), .val (ePs (ps.drop (i + 1)))] = some (.val (ePs (ps.set i none))) := by
        rw [cat_ps _ _ (by rw [List.length_append, List.length_take, List.length_drop, List.length_singleton]; omega)]
        congr 3
        rw [List.set_eq_take_append_cons_drop, if_pos hi', List.append_assoc]
        rfl
      have hm := e_may (C := C) G2
      have hc2 := e_cost (C := C) G2
      have hc := e_cost (C := C) G
      have hti := e_Task_init (C := C) G2
      have hsp : spareAt ps ls gl i = (decide (barOf (ps.set i none) ls gl = .none) && decide (costOf (ps.set i none) ls gl = costOf ps ls gl)) := by simp [spareAt, q]
      generalize hP2 : ps.set i none = ps2 at *
      generalize ps.take i ++ [none] = Y at *
      generalize ps.drop (i + 1) = Z at *
      generalize ps.take i = X at *
      by_cases b1 : barOf ps2 ls gl = .none
      · by_cases b2 : costOf ps2 ls gl = costOf ps ls gl
        · have hs : spareAt ps ls gl i = true := by rw [hsp]; simp [b1, b2]
          simp [def0, cRet, cAndV, cNotV, cOp, cC, cV, cChain, cOrV, cOrT, cCall, cIfS, cNx, cBad, cSeq, cSet, cB, cAnd, cOr, cNot, cIf, cFz, cExpr, cMov, cYes, RE.bind, RE.toS, RS.then, evA, evP, Sm.Env.get, Sm.Env.put, Sm.Env.asg, getS, getM, startS, isCopy, lendC, backC, M.isHole, M.fz, M.view, Slot.cont, gN, gT, gsC, gsN, Sm.Env.wipe, Sm.Env.rest, wipeS, restS, cSl, asI, isLst, gApp, cMut, cPar, cPar3, cAsgG, LcOk, ForOk, RetOk, LcR, cLc, iSeq, itemsM, seqOf, gTupM, gLstM, valsOf, isi_int, isi_bool, isi_tup, isi_lst, len_tup, len_list, len_lst, g_sub, g_neg, g_add, g_lt, g_gt, g_le, g_ge, eq_int, ne_int, isN_int, isN_none, notN_int, notN_none, isN_tup, notN_tup, truD, q, s1, s2, c1, c2, ix_sh1, cMake, hti, cMeth, ok_may, hm, b1, ok_cost, hc2, hc, b2, hs, hA, hacc]
        · have hs : spareAt ps ls gl i = false := by rw [hsp]; simp [b1, b2]
          simp [def0, cRet, cAndV, cNotV, cOp, cC, cV, cChain, cOrV, cOrT, cCall, cIfS, cNx, cBad, cSeq, cSet, cB, cAnd, cOr, cNot, cIf, cFz, cExpr, cMov, cYes, RE.bind, RE.toS, RS.then, evA, evP, Sm.Env.get, Sm.Env.put, Sm.Env.asg, getS, getM, startS, isCopy, lendC, backC, M.isHole, M.fz, M.view, Slot.cont, gN, gT, gsC, gsN, Sm.Env.wipe, Sm.Env.rest, wipeS, restS, cSl, asI, isLst, gApp, cMut, cPar, cPar3, cAsgG, LcOk, ForOk, RetOk, LcR, cLc, iSeq, itemsM, seqOf, gTupM, gLstM, valsOf, isi_int, isi_bool, isi_tup, isi_lst, len_tup, len_list, len_lst, g_sub, g_neg, g_add, g_lt, g_gt, g_le, g_ge, eq_int, ne_int, isN_int, isN_none, notN_int, notN_none, isN_tup, notN_tup, truD, q, s1, s2, c1, c2, ix_sh1, cMake, hti, cMeth, ok_may, hm, b1, ok_cost, hc2, hc, b2, hs, hA, hacc]
      · have hs : spareAt ps ls gl i = false := by rw [hsp]; simp [b1]
        simp [def0, cRet, cAndV, cNotV, cOp, cC, cV, cChain, cOrV, cOrT, cCall, cIfS, cNx, cBad, cSeq, cSet, cB, cAnd, cOr, cNot, cIf, cFz, cExpr, cMov, cYes, RE.bind, RE.toS, RS.then, evA, evP, Sm.Env.get, Sm.Env.put, Sm.Env.asg, getS, getM, startS, isCopy, lendC, backC, M.isHole, M.fz, M.view, Slot.cont, gN, gT, gsC, gsN, Sm.Env.wipe, Sm.Env.rest, wipeS, restS, cSl, asI, isLst, gApp, cMut, cPar, cPar3, cAsgG, LcOk, ForOk, RetOk, LcR, cLc, iSeq, itemsM, seqOf, gTupM, gLstM, valsOf, isi_int, isi_bool, isi_tup, isi_lst, len_tup, len_list, len_lst, g_sub, g_neg, g_add, g_lt, g_gt, g_le, g_ge, eq_int, ne_int, isN_int, isN_none, notN_int, notN_none, isN_tup, notN_tup, truD, q, s1, s2, c1, c2, ix_sh1, cMake, hti, cMeth, ok_may, hm, b1, hs, hA])
  simp [def0, cRet, cAndV, cNotV, cOp, cC, cV, cChain, cOrV, cOrT, cCall, cIfS, cNx, cBad, cSeq, cSet, cB, cAnd, cOr, cNot, cIf, cFz, cExpr, cMov, cYes, RE.bind, RE.toS, RS.then, evA, evP, Sm.Env.get, Sm.Env.put, Sm.Env.asg, getS, getM, startS, isCopy, lendC, backC, M.isHole, M.fz, M.view, Slot.cont, gN, gT, gsC, gsN, Sm.Env.wipe, Sm.Env.rest, wipeS, restS, cSl, asI, isLst, gApp, cMut, cPar, cPar3, cAsgG, LcOk, ForOk, RetOk, LcR, cLc, iSeq, itemsM, seqOf, gTupM, gLstM, valsOf, isi_int, isi_bool, isi_tup, isi_lst, len_tup, len_list, len_lst, g_sub, g_neg, g_add, g_lt, g_gt, g_le, g_ge, eq_int, ne_int, isN_int, isN_none, notN_int, notN_none, isN_tup, notN_tup, truD, spareOf]
end
end Wk

namespace Wk
noncomputable section
open PySem PySem.Spec Sm Mp
variable {C : Str → Addr}
theorem e_placed (ls : List (List Nat)) (b k : Nat) (fr : Bool) (hk : k < ls.length) (hz : ls.length ≤ 1000) (hl : ∀ l ∈ ls, l.length ≤ 900) : d_placed C [.val (eLots ls), .val (.tuple [nI b, nI k, eEnd fr])] = .ok (.val (eLots (placedL ls b k fr))) [.val (eLots ls), .val (.tuple [nI b, nI k, eEnd fr])] := by
  unfold d_placed b_placed
  simp [def0, cRet, cAndV, cNotV, cOp, cC, cV, cChain, cOrV, cOrT, cCall, cIfS, cNx, cBad, cSeq, cSet, cB, cAnd, cOr, cNot, cIf, cFz, cExpr, cMov, cYes, RE.bind, RE.toS, RS.then, evA, evP, Sm.Env.get, Sm.Env.put, Sm.Env.asg, getS, getM, startS, isCopy, lendC, backC, M.isHole, M.fz, M.view, Slot.cont, gN, gT, gsC, gsN, Sm.Env.wipe, Sm.Env.rest, wipeS, restS, cSl, asI, isLst, gApp, cMut, cPar, cPar3, cAsgG, LcOk, ForOk, RetOk, LcR, cLc, iSeq, itemsM, seqOf, gTupM, gLstM, valsOf, isi_int, isi_bool, isi_tup, isi_lst, len_tup, len_list, len_lst, g_sub, g_neg, g_add, g_lt, g_gt, g_le, g_ge, eq_int, ne_int, isN_int, isN_none, notN_int, notN_none, isN_tup, notN_tup, truD]
  rw [lc_ofY (fun l => eLot (without b l)) (fun l hl' => by
    simp [def0, cRet, cAndV, cNotV, cOp, cC, cV, cChain, cOrV, cOrT, cCall, cIfS, cNx, cBad, cSeq, cSet, cB, cAnd, cOr, cNot, cIf, cFz, cExpr, cMov, cYes, RE.bind, RE.toS, RS.then, evA, evP, Sm.Env.get, Sm.Env.put, Sm.Env.asg, getS, getM, startS, isCopy, lendC, backC, M.isHole, M.fz, M.view, Slot.cont, gN, gT, gsC, gsN, Sm.Env.wipe, Sm.Env.rest, wipeS, restS, cSl, asI, isLst, gApp, cMut, cPar, cPar3, cAsgG, LcOk, ForOk, RetOk, LcR, cLc, iSeq, itemsM, seqOf, gTupM, gLstM, valsOf, isi_int, isi_bool, isi_tup, isi_lst, len_tup, len_list, len_lst, g_sub, g_neg, g_add, g_lt, g_gt, g_le, g_ge, eq_int, ne_int, isN_int, isN_none, notN_int, notN_none, isN_tup, notN_tup, truD]
    rw [lc_of (fun x => !decide (x = b)) nI (fun x hx => by
      by_cases h : x = b
      · simp [def0, cRet, cAndV, cNotV, cOp, cC, cV, cChain, cOrV, cOrT, cCall, cIfS, cNx, cBad, cSeq, cSet, cB, cAnd, cOr, cNot, cIf, cFz, cExpr, cMov, cYes, RE.bind, RE.toS, RS.then, evA, evP, Sm.Env.get, Sm.Env.put, Sm.Env.asg, getS, getM, startS, isCopy, lendC, backC, M.isHole, M.fz, M.view, Slot.cont, gN, gT, gsC, gsN, Sm.Env.wipe, Sm.Env.rest, wipeS, restS, cSl, asI, isLst, gApp, cMut, cPar, cPar3, cAsgG, LcOk, ForOk, RetOk, LcR, cLc, iSeq, itemsM, seqOf, gTupM, gLstM, valsOf, isi_int, isi_bool, isi_tup, isi_lst, len_tup, len_list, len_lst, g_sub, g_neg, g_add, g_lt, g_gt, g_le, g_ge, eq_int, ne_int, isN_int, isN_none, notN_int, notN_none, isN_tup, notN_tup, truD, h]
      · have h' : ¬ (x : Int) = (b : Int) := by omega
        simp [def0, cRet, cAndV, cNotV, cOp, cC, cV, cChain, cOrV, cOrT, cCall, cIfS, cNx, cBad, cSeq, cSet, cB, cAnd, cOr, cNot, cIf, cFz, cExpr, cMov, cYes, RE.bind, RE.toS, RS.then, evA, evP, Sm.Env.get, Sm.Env.put, Sm.Env.asg, getS, getM, startS, isCopy, lendC, backC, M.isHole, M.fz, M.view, Slot.cont, gN, gT, gsC, gsN, Sm.Env.wipe, Sm.Env.rest, wipeS, restS, cSl, asI, isLst, gApp, cMut, cPar, cPar3, cAsgG, LcOk, ForOk, RetOk, LcR, cLc, iSeq, itemsM, seqOf, gTupM, gLstM, valsOf, isi_int, isi_bool, isi_tup, isi_lst, len_tup, len_list, len_lst, g_sub, g_neg, g_add, g_lt, g_gt, g_le, g_ge, eq_int, ne_int, isN_int, isN_none, notN_int, notN_none, isN_tup, notN_tup, truD, h, h']) (by have := hl l hl'; omega)]
    simp [def0, cRet, cAndV, cNotV, cOp, cC, cV, cChain, cOrV, cOrT, cCall, cIfS, cNx, cBad, cSeq, cSet, cB, cAnd, cOr, cNot, cIf, cFz, cExpr, cMov, cYes, RE.bind, RE.toS, RS.then, evA, evP, Sm.Env.get, Sm.Env.put, Sm.Env.asg, getS, getM, startS, isCopy, lendC, backC, M.isHole, M.fz, M.view, Slot.cont, gN, gT, gsC, gsN, Sm.Env.wipe, Sm.Env.rest, wipeS, restS, cSl, asI, isLst, gApp, cMut, cPar, cPar3, cAsgG, LcOk, ForOk, RetOk, LcR, cLc, iSeq, itemsM, seqOf, gTupM, gLstM, valsOf, isi_int, isi_bool, isi_tup, isi_lst, len_tup, len_list, len_lst, g_sub, g_neg, g_add, g_lt, g_gt, g_le, g_ge, eq_int, ne_int, isN_int, isN_none, notN_int, notN_none, isN_tup, notN_tup, truD, gTuple, without]) (by omega)]
  have hkw : k < (ls.map (without b)).length := by simpa using hk
  have hx := ix_lotsM (ls.map (without b)) hkw
  have hw : (ls.map (without b))[k] = without b (ls.getD k []) := by simp [hk]
  have hlen : (without b (ls.getD k [])).length ≤ 900 := by
    rw [getD_lt hk]
    exact Nat.le_trans (List.length_filter_le _ _) (hl _ (List.getElem_mem hk))
  rw [hw] at hx
  have hm : ls.map (fun l => eLot (without b l)) = (ls.map (without b)).map eLot := by rw [List.map_map]; rfl
  rw [hm]
  unfold placedL
  cases fr with
  | true =>
    have hc := cat_lot [b] (without b (ls.getD k [])) (by rw [List.length_singleton]; omega)
    have hs := set_lots (ls.map (without b)) (b :: without b (ls.getD k [])) hkw
    generalize without b (ls.getD k []) = wl at *
    generalize ls.map (without b) = ws at *
    have hc' : gAdd [.val (.tuple [nI b]), .val (eLot wl)] = some (.val (eLot (b :: wl))) := hc
    generalize hU : eLot (b :: wl) = U at *
    generalize hV : eLot wl = V at *
    generalize hX : ws.map eLot = X at *
    generalize hY : (ws.set k (b :: wl)).map eLot = Y at *
    simp [def0, cRet, cAndV, cNotV, cOp, cC, cV, cChain, cOrV, cOrT, cCall, cIfS, cNx, cBad, cSeq, cSet, cB, cAnd, cOr, cNot, cIf, cFz, cExpr, cMov, cYes, RE.bind, RE.toS, RS.then, evA, evP, Sm.Env.get, Sm.Env.put, Sm.Env.asg, getS, getM, startS, isCopy, lendC, backC, M.isHole, M.fz, M.view, Slot.cont, gN, gT, gsC, gsN, Sm.Env.wipe, Sm.Env.rest, wipeS, restS, cSl, asI, isLst, gApp, cMut, cPar, cPar3, cAsgG, LcOk, ForOk, RetOk, LcR, cLc, iSeq, itemsM, seqOf, gTupM, gLstM, valsOf, isi_int, isi_bool, isi_tup, isi_lst, len_tup, len_list, len_lst, g_sub, g_neg, g_add, g_lt, g_gt, g_le, g_ge, eq_int, ne_int, isN_int, isN_none, notN_int, notN_none, isN_tup, notN_tup, truD, eq_fE, hx, hc', cSetIx, hs, gTuple]
    rw [← hY]
    simp
  | false =>
    have hc := cat_lot (without b (ls.getD k [])) [b] (by rw [List.length_singleton]; omega)
    have hs := set_lots (ls.map (without b)) (without b (ls.getD k []) ++ [b]) hkw
    generalize without b (ls.getD k []) = wl at *
    generalize ls.map (without b) = ws at *
    have hc' : gAdd [.val (eLot wl), .val (.tuple [nI b])] = some (.val (eLot (wl ++ [b]))) := hc
    generalize hU : eLot (wl ++ [b]) = U at *
    generalize hV : eLot wl = V at *
    generalize hX : ws.map eLot = X at *
    generalize hY : (ws.set k (wl ++ [b])).map eLot = Y at *
    simp [def0, cRet, cAndV, cNotV, cOp, cC, cV, cChain, cOrV, cOrT, cCall, cIfS, cNx, cBad, cSeq, cSet, cB, cAnd, cOr, cNot, cIf, cFz, cExpr, cMov, cYes, RE.bind, RE.toS, RS.then, evA, evP, Sm.Env.get, Sm.Env.put, Sm.Env.asg, getS, getM, startS, isCopy, lendC, backC, M.isHole, M.fz, M.view, Slot.cont, gN, gT, gsC, gsN, Sm.Env.wipe, Sm.Env.rest, wipeS, restS, cSl, asI, isLst, gApp, cMut, cPar, cPar3, cAsgG, LcOk, ForOk, RetOk, LcR, cLc, iSeq, itemsM, seqOf, gTupM, gLstM, valsOf, isi_int, isi_bool, isi_tup, isi_lst, len_tup, len_list, len_lst, g_sub, g_neg, g_add, g_lt, g_gt, g_le, g_ge, eq_int, ne_int, isN_int, isN_none, notN_int, notN_none, isN_tup, notN_tup, truD, eq_lE, hx, hc', cSetIx, hs, gTuple]
    rw [← hY]
    simp
/-! wishes: a lot for some of the books -/
abbrev eW : Option Nat → PyData
  | none => .none
  | some k => nI k
abbrev eWs (w : List (Option Nat)) : PyData := .tuple (w.map eW)
def wAt (w : List (Option Nat)) (b : Nat) : Option Nat := (w[b]?).getD none
theorem w_zip (w : List (Option Nat)) : w.zipIdx = (List.range w.length).map fun b => (wAt w b, b) := by
  apply List.ext_getElem
  · simp
  · intro i h1 h2
    simp at h1
    simp [wAt, h1]
theorem e_need_wish (ps ls) (w : List (Option Nat)) (hl : w.length = ps.length) (hw : ∀ k, some k ∈ w → k < ls.length) (hz : ps.length ≤ 100) : d_need_wish C [.val (eSh ps ls), .val (eWs w)] = .ok (.val .none) [.val (eSh ps ls), .val (eWs w)] := by
  unfold d_need_wish b_need_wish
  simp [def0, cRet, cAndV, cNotV, cOp, cC, cV, cChain, cOrV, cOrT, cCall, cIfS, cNx, cBad, cSeq, cSet, cB, cAnd, cOr, cNot, cIf, cFz, cExpr, cMov, cYes, RE.bind, RE.toS, RS.then, evA, evP, Sm.Env.get, Sm.Env.put, Sm.Env.asg, getS, getM, startS, isCopy, lendC, backC, M.isHole, M.fz, M.view, Slot.cont, gN, gT, gsC, gsN, Sm.Env.wipe, Sm.Env.rest, wipeS, restS, cSl, asI, isLst, gApp, cMut, cPar, cPar3, cAsgG, LcOk, ForOk, RetOk, LcR, cLc, iSeq, itemsM, seqOf, gTupM, gLstM, valsOf, isi_int, isi_bool, isi_tup, isi_lst, len_tup, len_list, len_lst, g_sub, g_neg, g_add, g_lt, g_gt, g_le, g_ge, eq_int, ne_int, isN_int, isN_none, notN_int, notN_none, isN_tup, notN_tup, truD, cFor, enum_map, w_zip, Function.comp_def]
  generalize hF : forD _ _ _ _ = F
  obtain ⟨e', rfl, j2, j3, rfl⟩ := for_at hF (fun i e => ∃ j2 j3 : Sm.Slot, e = ⟨[.own (vv (eSh ps ls)), .own (vv (eWs w)), j2, j3], [vv (eSh ps ls), vv (eWs w)]⟩) ⟨_, _, rfl⟩ (fun i hi e ⟨j2, j3, he⟩ => by
    subst he
    have hi' : i < w.length := by simpa using hi
    have hr : (List.range w.length)[i] = i := by simp
    rw [hr]
    have hn : ¬ ((i : Int) = (ps.length : Int)) := by omega
    cases q : wAt w i with
    | none => simp [def0, cRet, cAndV, cNotV, cOp, cC, cV, cChain, cOrV, cOrT, cCall, cIfS, cNx, cBad, cSeq, cSet, cB, cAnd, cOr, cNot, cIf, cFz, cExpr, cMov, cYes, RE.bind, RE.toS, RS.then, evA, evP, Sm.Env.get, Sm.Env.put, Sm.Env.asg, getS, getM, startS, isCopy, lendC, backC, M.isHole, M.fz, M.view, Slot.cont, gN, gT, gsC, gsN, Sm.Env.wipe, Sm.Env.rest, wipeS, restS, cSl, asI, isLst, gApp, cMut, cPar, cPar3, cAsgG, LcOk, ForOk, RetOk, LcR, cLc, iSeq, itemsM, seqOf, gTupM, gLstM, valsOf, isi_int, isi_bool, isi_tup, isi_lst, len_tup, len_list, len_lst, g_sub, g_neg, g_add, g_lt, g_gt, g_le, g_ge, eq_int, ne_int, isN_int, isN_none, notN_int, notN_none, isN_tup, notN_tup, truD, q, ix_sh0, hn]
    | some k =>
      have hm : some k ∈ w := by
        unfold wAt at q
        rw [List.getElem?_eq_getElem hi'] at q
        have : w[i] = some k := by simpa using q
        rw [← this]; exact List.getElem_mem hi'
      have hk := hw k hm
      have hc : (0 : Int) ≤ (k : Int) ∧ (k : Int) ≤ (ls.length : Int) - 1 := by omega
      simp [def0, cRet, cAndV, cNotV, cOp, cC, cV, cChain, cOrV, cOrT, cCall, cIfS, cNx, cBad, cSeq, cSet, cB, cAnd, cOr, cNot, cIf, cFz, cExpr, cMov, cYes, RE.bind, RE.toS, RS.then, evA, evP, Sm.Env.get, Sm.Env.put, Sm.Env.asg, getS, getM, startS, isCopy, lendC, backC, M.isHole, M.fz, M.view, Slot.cont, gN, gT, gsC, gsN, Sm.Env.wipe, Sm.Env.rest, wipeS, restS, cSl, asI, isLst, gApp, cMut, cPar, cPar3, cAsgG, LcOk, ForOk, RetOk, LcR, cLc, iSeq, itemsM, seqOf, gTupM, gLstM, valsOf, isi_int, isi_bool, isi_tup, isi_lst, len_tup, len_list, len_lst, g_sub, g_neg, g_add, g_lt, g_gt, g_le, g_ge, eq_int, ne_int, isN_int, isN_none, notN_int, notN_none, isN_tup, notN_tup, truD, q, ix_sh0, ix_sh1, hn, e_is_number, hc])
  have hn2 : ¬ ((w.length : Int) < (ps.length : Int)) := by omega
  simp [def0, cRet, cAndV, cNotV, cOp, cC, cV, cChain, cOrV, cOrT, cCall, cIfS, cNx, cBad, cSeq, cSet, cB, cAnd, cOr, cNot, cIf, cFz, cExpr, cMov, cYes, RE.bind, RE.toS, RS.then, evA, evP, Sm.Env.get, Sm.Env.put, Sm.Env.asg, getS, getM, startS, isCopy, lendC, backC, M.isHole, M.fz, M.view, Slot.cont, gN, gT, gsC, gsN, Sm.Env.wipe, Sm.Env.rest, wipeS, restS, cSl, asI, isLst, gApp, cMut, cPar, cPar3, cAsgG, LcOk, ForOk, RetOk, LcR, cLc, iSeq, itemsM, seqOf, gTupM, gLstM, valsOf, isi_int, isi_bool, isi_tup, isi_lst, len_tup, len_list, len_lst, g_sub, g_neg, g_add, g_lt, g_gt, g_le, g_ge, eq_int, ne_int, isN_int, isN_none, notN_int, notN_none, isN_tup, notN_tup, truD, ix_sh0, hn2, hl]
def mvTo (ls : List (List Nat)) (w : List (Option Nat)) (b : Nat) : Option Nat := match wAt w b with
  | some k => if whereIn ls b = k then none else some k
  | none => none
def stuck (ps : List (Option Int)) (ls : List (List Nat)) (w : List (Option Nat)) (b : Nat) : Bool := decide (mvTo ls w b ≠ none) && decide (pr ps b = none)
def mvCost (ps : List (Option Int)) (ls : List (List Nat)) (w : List (Option Nat)) (b : Nat) : Int := if mvTo ls w b = none then 0 else (pr ps b).getD 0
abbrev chB (C : Str → Addr) : DS := cIfS (cAnd (cB (cOp gNotN [.v 5, .e (cC (.val .none))])) (cB (cOp gNe [.e (cCall (d_lot_of C) [.e (cOp gIx [.v 0, .e (cC (.val (.int 1)))]), .v 4]), .v 5]))) (cSeq (cIfS (cB (cOp gIsN [.e (cOp gIx [.e (cOp gIx [.v 0, .e (cC (.val (.int 0)))]), .v 4]), .e (cC (.val .none))])) (cRet (cC (.val .none))) cNx)
    (cSeq (cAug 3 (fun i j => i + j) (cOp gIx [.e (cOp gIx [.v 0, .e (cC (.val (.int 0)))]), .v 4]))
    (cSet 2 (cCall (d_placed C) [.v 2, .e (cOp gTupM [.v 4, .v 5, .e (cC (.val (.str "last")))])])))) cNx
theorem ch_step (ps ls) (w : List (Option Nat)) (S : Lots ps.length 5 ls) (hz : ps.length ≤ 12) (hw : ∀ k, some k ∈ w → k < ls.length) {i : Nat} (hi : i < ps.length) (hiw : i < w.length) (tot : Int) (gl : List (List Nat)) (hg : gl.length = ls.length) (hp : gl.flatten.Perm (List.range ps.length)) (j4 j5 : Sm.Slot) :
    (stuck ps ls w i = false → ∀ P : Sm.Env → Prop, (∀ gl' (j4 j5 : Sm.Slot), gl'.length = ls.length → gl'.flatten.Perm (List.range ps.length) → P ⟨[.own (vv (eSh ps ls)), .own (vv (eWs w)), .own (vv (eLots gl')), .own (vv (.int (tot + mvCost ps ls w i))), j4, j5], [vv (eSh ps ls), vv (eWs w)]⟩) →
      ForOk (gT 2 (gsC (gN 4) (gsC (gN 5) gsN))) (chB C) (.tuple [.int (i : Int), eW (wAt w i)]) ⟨[.own (vv (eSh ps ls)), .own (vv (eWs w)), .own (vv (eLots gl)), .own (vv (.int tot)), j4, j5], [vv (eSh ps ls), vv (eWs w)]⟩ P) ∧
    (stuck ps ls w i = true → RetOk (gT 2 (gsC (gN 4) (gsC (gN 5) gsN))) (chB C) (.tuple [.int (i : Int), eW (wAt w i)]) ⟨[.own (vv (eSh ps ls)), .own (vv (eWs w)), .own (vv (eLots gl)), .own (vv (.int tot)), j4, j5], [vv (eSh ps ls), vv (eWs w)]⟩ fun m e => m = .val .none ∧ e.a = [vv (eSh ps ls), vv (eWs w)]) := by
  have l1 := e_lot_of (C := C) ls i (S.there hi) (by have := S.le; omega)
  have hx := ix_ps ps hi
  cases q : wAt w i with
  | none =>
    have hm : mvTo ls w i = none := by simp [mvTo, q]
    refine ⟨fun _ P h => ?_, fun h => ?_⟩
    · have := h gl (.own (vv (nI i))) (.own (vv .none)) hg hp
      have hc : tot + mvCost ps ls w i = tot := by simp [mvCost, hm]
      rw [hc] at this
      simp [def0, cRet, cAndV, cNotV, cOp, cC, cV, cChain, cOrV, cOrT, cCall, cIfS, cNx, cBad, cSeq, cSet, cB, cAnd, cOr, cNot, cIf, cFz, cExpr, cMov, cYes, RE.bind, RE.toS, RS.then, evA, evP, Sm.Env.get, Sm.Env.put, Sm.Env.asg, getS, getM, startS, isCopy, lendC, backC, M.isHole, M.fz, M.view, Slot.cont, gN, gT, gsC, gsN, Sm.Env.wipe, Sm.Env.rest, wipeS, restS, cSl, asI, isLst, gApp, cMut, cPar, cPar3, cAsgG, LcOk, ForOk, RetOk, LcR, cLc, iSeq, itemsM, seqOf, gTupM, gLstM, valsOf, isi_int, isi_bool, isi_tup, isi_lst, len_tup, len_list, len_lst, g_sub, g_neg, g_add, g_lt, g_gt, g_le, g_ge, eq_int, ne_int, isN_int, isN_none, notN_int, notN_none, isN_tup, notN_tup, truD, q]
      exact this
    · simp [stuck, hm] at h
  | some k =>
    have hmem : some k ∈ w := by
      unfold wAt at q
      rw [List.getElem?_eq_getElem hiw] at q
      have : w[i] = some k := by simpa using q
      rw [← this]; exact List.getElem_mem hiw
    have hk := hw k hmem
    by_cases e1 : whereIn ls i = k
    · have hm : mvTo ls w i = none := by simp [mvTo, q, e1]
      refine ⟨fun _ P h => ?_, fun h => ?_⟩
      · have := h gl (.own (vv (nI i))) (.own (vv (nI k))) hg hp
        have hc : tot + mvCost ps ls w i = tot := by simp [mvCost, hm]
        rw [hc] at this
        simp [def0, cRet, cAndV, cNotV, cOp, cC, cV, cChain, cOrV, cOrT, cCall, cIfS, cNx, cBad, cSeq, cSet, cB, cAnd, cOr, cNot, cIf, cFz, cExpr, cMov, cYes, RE.bind, RE.toS, RS.then, evA, evP, Sm.Env.get, Sm.Env.put, Sm.Env.asg, getS, getM, startS, isCopy, lendC, backC, M.isHole, M.fz, M.view, Slot.cont, gN, gT, gsC, gsN, Sm.Env.wipe, Sm.Env.rest, wipeS, restS, cSl, asI, isLst, gApp, cMut, cPar, cPar3, cAsgG, LcOk, ForOk, RetOk, LcR, cLc, iSeq, itemsM, seqOf, gTupM, gLstM, valsOf, isi_int, isi_bool, isi_tup, isi_lst, len_tup, len_list, len_lst, g_sub, g_neg, g_add, g_lt, g_gt, g_le, g_ge, eq_int, ne_int, isN_int, isN_none, notN_int, notN_none, isN_tup, notN_tup, truD, q, ix_sh1, l1, e1]
        exact this
      · simp [stuck, hm] at h
    · have hm : mvTo ls w i = some k := by simp [mvTo, q, e1]
      have e1' : ¬ (whereIn ls i : Int) = (k : Int) := by omega
      cases qp : pr ps i with
      | none =>
        refine ⟨fun h => ?_, fun _ => ?_⟩
        · simp [stuck, hm, qp] at h
        · simp [def0, cRet, cAndV, cNotV, cOp, cC, cV, cChain, cOrV, cOrT, cCall, cIfS, cNx, cBad, cSeq, cSet, cB, cAnd, cOr, cNot, cIf, cFz, cExpr, cMov, cYes, RE.bind, RE.toS, RS.then, evA, evP, Sm.Env.get, Sm.Env.put, Sm.Env.asg, getS, getM, startS, isCopy, lendC, backC, M.isHole, M.fz, M.view, Slot.cont, gN, gT, gsC, gsN, Sm.Env.wipe, Sm.Env.rest, wipeS, restS, cSl, asI, isLst, gApp, cMut, cPar, cPar3, cAsgG, LcOk, ForOk, RetOk, LcR, cLc, iSeq, itemsM, seqOf, gTupM, gLstM, valsOf, isi_int, isi_bool, isi_tup, isi_lst, len_tup, len_list, len_lst, g_sub, g_neg, g_add, g_lt, g_gt, g_le, g_ge, eq_int, ne_int, isN_int, isN_none, notN_int, notN_none, isN_tup, notN_tup, truD, q, ix_sh1, l1, e1', e1, ix_sh0, hx, qp]
      | some p =>
        refine ⟨fun _ P h => ?_, fun h => ?_⟩
        · have hpl : d_placed C [.val (eLots gl), .val (.tuple [nI i, nI k, .str "last"])] = .ok (.val (eLots (placedL gl i k false))) [.val (eLots gl), .val (.tuple [nI i, nI k, .str "last"])] := e_placed (C := C) gl i k false (by omega) (by have := S.le; omega) (fun l hl => by have := perm_len hp l hl; omega)
          have := h (placedL gl i k false) (.own (vv (nI i))) (.own (vv (nI k))) (by rw [placed_len]; exact hg) (placed_perm gl ps.length i k false hp hi (by omega))
          have hc : mvCost ps ls w i = p := by simp [mvCost, hm, qp]
          rw [hc] at this
          simp [def0, cRet, cAndV, cNotV, cOp, cC, cV, cChain, cOrV, cOrT, cCall, cIfS, cNx, cBad, cSeq, cSet, cB, cAnd, cOr, cNot, cIf, cFz, cExpr, cMov, cYes, RE.bind, RE.toS, RS.then, evA, evP, Sm.Env.get, Sm.Env.put, Sm.Env.asg, getS, getM, startS, isCopy, lendC, backC, M.isHole, M.fz, M.view, Slot.cont, gN, gT, gsC, gsN, Sm.Env.wipe, Sm.Env.rest, wipeS, restS, cSl, asI, isLst, gApp, cMut, cPar, cPar3, cAsgG, LcOk, ForOk, RetOk, LcR, cLc, iSeq, itemsM, seqOf, gTupM, gLstM, valsOf, isi_int, isi_bool, isi_tup, isi_lst, len_tup, len_list, len_lst, g_sub, g_neg, g_add, g_lt, g_gt, g_le, g_ge, eq_int, ne_int, isN_int, isN_none, notN_int, notN_none, isN_tup, notN_tup, truD, q, ix_sh1, l1, e1', e1, ix_sh0, hx, qp, cAug, hpl]
          exact this
        · simp [stuck, hm, qp] at h
/-- where a wish is refused -/
theorem e_cheapest_none {ps ls gl} (G : Good ps ls gl) (hperm : ls.flatten.Perm (List.range ps.length)) (w : List (Option Nat)) (hl : w.length = ps.length) (hw : ∀ k, some k ∈ w → k < ls.length) {b : Nat} (hb : b < ps.length) (h1 : stuck ps ls w b = true) (h2 : ∀ j < b, stuck ps ls w j = false) :
    d_cheapest C [.val (eSh ps ls), .val (eWs w)] = .ok (.val .none) [.val (eSh ps ls), .val (eWs w)] := by
  have hp := G.pl
  unfold d_cheapest b_cheapest
  simp [def0, cRet, cAndV, cNotV, cOp, cC, cV, cChain, cOrV, cOrT, cCall, cIfS, cNx, cBad, cSeq, cSet, cB, cAnd, cOr, cNot, cIf, cFz, cExpr, cMov, cYes, RE.bind, RE.toS, RS.then, evA, evP, Sm.Env.get, Sm.Env.put, Sm.Env.asg, getS, getM, startS, isCopy, lendC, backC, M.isHole, M.fz, M.view, Slot.cont, gN, gT, gsC, gsN, Sm.Env.wipe, Sm.Env.rest, wipeS, restS, cSl, asI, isLst, gApp, cMut, cPar, cPar3, cAsgG, LcOk, ForOk, RetOk, LcR, cLc, iSeq, itemsM, seqOf, gTupM, gLstM, valsOf, isi_int, isi_bool, isi_tup, isi_lst, len_tup, len_list, len_lst, g_sub, g_neg, g_add, g_lt, g_gt, g_le, g_ge, eq_int, ne_int, isN_int, isN_none, notN_int, notN_none, isN_tup, notN_tup, truD, e_need_shelf G, e_need_wish ps ls w hl hw (by omega), ix_sh1, cFor, enum_map, w_zip, Function.comp_def]
  generalize hF : forD _ _ _ _ = F
  have hr : ∀ (n i : Nat) (h : i < (List.range n).length), (List.range n)[i] = i := fun n i h => by simp
  obtain ⟨m, e', rfl, rfl, h4⟩ := for_rt hF (fun i e => ∃ (gl : List (List Nat)) (tot : Int) (j4 j5 : Sm.Slot), gl.length = ls.length ∧ gl.flatten.Perm (List.range ps.length) ∧ e = ⟨[.own (vv (eSh ps ls)), .own (vv (eWs w)), .own (vv (eLots gl)), .own (vv (.int tot)), j4, j5], [vv (eSh ps ls), vv (eWs w)]⟩) (fun m e => m = .val .none ∧ e.a = [vv (eSh ps ls), vv (eWs w)])
    ⟨ls, 0, .own .hole, .own .hole, rfl, hperm, rfl⟩ (k := b) (by simp; omega) (fun i hi e ⟨gl, tot, j4, j5, g1, g2, he⟩ => by
      subst he
      rw [hr]
      exact (ch_step (C := C) ps ls w G.l hp hw (by omega) (by omega) tot gl g1 g2 j4 j5).1 (h2 i hi) _ fun gl' j4 j5 a1 a2 => ⟨gl', _, j4, j5, a1, a2, rfl⟩) (fun e ⟨gl, tot, j4, j5, g1, g2, he⟩ => by
      subst he
      rw [hr]
      exact (ch_step (C := C) ps ls w G.l hp hw hb (by omega) tot gl g1 g2 j4 j5).2 h1)
  simp [h4]
theorem e_cheapest {ps ls gl} (G : Good ps ls gl) (hperm : ls.flatten.Perm (List.range ps.length)) (w : List (Option Nat)) (hl : w.length = ps.length) (hw : ∀ k, some k ∈ w → k < ls.length) (h2 : ∀ j < ps.length, stuck ps ls w j = false) :
    ∃ gl' : List (List Nat), d_cheapest C [.val (eSh ps ls), .val (eWs w)] = .ok (.val (.tuple [.int ((List.range ps.length).map (mvCost ps ls w)).sum, eLots gl'])) [.val (eSh ps ls), .val (eWs w)] := by
  have hp := G.pl
  unfold d_cheapest b_cheapest
  simp [def0, cRet, cAndV, cNotV, cOp, cC, cV, cChain, cOrV, cOrT, cCall, cIfS, cNx, cBad, cSeq, cSet, cB, cAnd, cOr, cNot, cIf, cFz, cExpr, cMov, cYes, RE.bind, RE.toS, RS.then, evA, evP, Sm.Env.get, Sm.Env.put, Sm.Env.asg, getS, getM, startS, isCopy, lendC, backC, M.isHole, M.fz, M.view, Slot.cont, gN, gT, gsC, gsN, Sm.Env.wipe, Sm.Env.rest, wipeS, restS, cSl, asI, isLst, gApp, cMut, cPar, cPar3, cAsgG, LcOk, ForOk, RetOk, LcR, cLc, iSeq, itemsM, seqOf, gTupM, gLstM, valsOf, isi_int, isi_bool, isi_tup, isi_lst, len_tup, len_list, len_lst, g_sub, g_neg, g_add, g_lt, g_gt, g_le, g_ge, eq_int, ne_int, isN_int, isN_none, notN_int, notN_none, isN_tup, notN_tup, truD, e_need_shelf G, e_need_wish ps ls w hl hw (by omega), ix_sh1, cFor, enum_map, w_zip, Function.comp_def]
  generalize hF : forD _ _ _ _ = F
  obtain ⟨e', rfl, gl, j4, j5, g1, g2, rfl⟩ := for_at hF (fun i e => ∃ (gl : List (List Nat)) (j4 j5 : Sm.Slot), gl.length = ls.length ∧ gl.flatten.Perm (List.range ps.length) ∧ e = ⟨[.own (vv (eSh ps ls)), .own (vv (eWs w)), .own (vv (eLots gl)), .own (vv (.int ((List.range i).map (mvCost ps ls w)).sum)), j4, j5], [vv (eSh ps ls), vv (eWs w)]⟩)
    ⟨ls, .own .hole, .own .hole, rfl, hperm, rfl⟩ (fun i hi e ⟨gl, j4, j5, g1, g2, he⟩ => by
      subst he
      have hi' : i < w.length := by simpa using hi
      have hr : (List.range w.length)[i] = i := by simp
      rw [hr]
      refine (ch_step (C := C) ps ls w G.l hp hw (by omega) hi' _ gl g1 g2 j4 j5).1 (h2 i (by omega)) _ fun gl' j4 j5 a1 a2 => ⟨gl', j4, j5, a1, a2, ?_⟩
      rw [List.range_succ, List.map_append, List.sum_append]
      simp)
  refine ⟨gl, ?_⟩
  simp [def0, cRet, cAndV, cNotV, cOp, cC, cV, cChain, cOrV, cOrT, cCall, cIfS, cNx, cBad, cSeq, cSet, cB, cAnd, cOr, cNot, cIf, cFz, cExpr, cMov, cYes, RE.bind, RE.toS, RS.then, evA, evP, Sm.Env.get, Sm.Env.put, Sm.Env.asg, getS, getM, startS, isCopy, lendC, backC, M.isHole, M.fz, M.view, Slot.cont, gN, gT, gsC, gsN, Sm.Env.wipe, Sm.Env.rest, wipeS, restS, cSl, asI, isLst, gApp, cMut, cPar, cPar3, cAsgG, LcOk, ForOk, RetOk, LcR, cLc, iSeq, itemsM, seqOf, gTupM, gLstM, valsOf, isi_int, isi_bool, isi_tup, isi_lst, len_tup, len_list, len_lst, g_sub, g_neg, g_add, g_lt, g_gt, g_le, g_ge, eq_int, ne_int, isN_int, isN_none, notN_int, notN_none, isN_tup, notN_tup, truD, hl]
end
end Wk

/-! PA: stretches that hold, by what they are; weights. -/
namespace Wk
open Sm
def inc (old : List Nat) : Int → List Nat → Prop
  | _, [] => True
  | a, b :: l => a < pos old b ∧ inc old (pos old b) l
theorem mem_run_iff (old : List Nat) (f : Nat) : ∀ (r : List Nat) (past : Nat) (a : Int) (q : Nat × Nat), q ∈ run old f r past a ↔ q.1 = f ∧ past < q.2 ∧ q.2 ≤ past + r.length ∧ inc old a (r.take (q.2 - past))
  | [], past, a, q => by simp [run]; intro _ h1 h2; omega
  | b :: r, past, a, q => by
    by_cases h : a < pos old b
    · have ih := mem_run_iff old f r (past + 1) (pos old b) q
      rw [show run old f (b :: r) past a = (f, past + 1) :: run old f r (past + 1) (pos old b) from if_pos h, List.mem_cons, ih]
      constructor
      · rintro (rfl | ⟨h1, h2, h3, h4⟩)
        · refine ⟨rfl, by simp, by simp, ?_⟩
          simp [inc, h]
        · refine ⟨h1, by omega, by simp; omega, ?_⟩
          have e : q.2 - past = (q.2 - (past + 1)) + 1 := by omega
          rw [e, List.take_succ_cons]
          exact ⟨h, h4⟩
      · rintro ⟨h1, h2, h3, h4⟩
        by_cases e : q.2 = past + 1
        · left; rcases q with ⟨q1, q2⟩; simp at h1 e; simp [h1, e]
        · right
          have e2 : q.2 - past = (q.2 - (past + 1)) + 1 := by omega
          rw [e2, List.take_succ_cons] at h4
          refine ⟨h1, by omega, by simp at h3; omega, h4.2⟩
    · rw [show run old f (b :: r) past a = [] from if_neg h]
      constructor
      · intro h; cases h
      · rintro ⟨h1, h2, h3, h4⟩
        have e2 : q.2 - past = (q.2 - (past + 1)) + 1 := by omega
        rw [e2, List.take_succ_cons] at h4
        exact absurd h4.1 h
theorem mem_standing_iff (old lot : List Nat) (q : Nat × Nat) : q ∈ standing old lot ↔ q.1 < q.2 ∧ q.2 ≤ lot.length ∧ inc old (-1) (seg lot q.1 q.2) := by
  unfold standing
  rw [List.mem_flatMap]
  constructor
  · rintro ⟨f, hf, h⟩
    obtain ⟨h1, h2, h3, h4⟩ := (mem_run_iff old f _ _ _ q).mp h
    subst h1
    have := List.mem_range.mp hf
    rw [List.length_drop] at h3
    exact ⟨h2, by omega, h4⟩
  · rintro ⟨h1, h2, h3⟩
    refine ⟨q.1, List.mem_range.mpr (by omega), (mem_run_iff old q.1 _ _ _ q).mpr ⟨rfl, h1, ?_, h3⟩⟩
    rw [List.length_drop]; omega
theorem inc_sub (old : List Nat) (hn : old.Nodup) : ∀ (l : List Nat) (a : Int), -1 ≤ a → (inc old a l ↔ l.Sublist (old.drop (a + 1).toNat))
  | [], a, _ => by simp [inc]
  | b :: l, a, ha => by
    constructor
    · rintro ⟨h1, h2⟩
      have hb : b ∈ old := by
        apply Classical.byContradiction; intro z
        rw [show pos old b = -1 from if_neg z] at h1; omega
      have hp : pos old b = (old.idxOf b : Int) := if_pos hb
      have h3 := (inc_sub old hn l (pos old b) (by rw [hp]; omega)).mp h2
      have hi := List.idxOf_lt_length_of_mem hb
      have e1 : (pos old b + 1).toNat = old.idxOf b + 1 := by rw [hp]; omega
      rw [e1] at h3
      have h4 : (b :: l).Sublist (old.drop (old.idxOf b)) := by
        rw [List.drop_eq_getElem_cons hi, List.getElem_idxOf hi]
        exact h3.cons_cons b
      refine h4.trans ?_
      have : old.drop (old.idxOf b) = (old.drop (a + 1).toNat).drop (old.idxOf b - (a + 1).toNat) := by
        rw [List.drop_drop]; congr 1; rw [hp] at h1; omega
      rw [this]
      exact List.drop_sublist _ _
    · intro h
      obtain ⟨r1, r2, e, h1, h2⟩ := List.cons_sublist_iff.mp h
      have hb : b ∈ old := List.mem_of_mem_drop (by rw [e]; exact List.mem_append_left _ h1)
      have hi := List.idxOf_lt_length_of_mem hb
      obtain ⟨j, hj, ej⟩ := List.mem_iff_getElem.mp h1
      have hL : r1.length + r2.length = old.length - (a + 1).toNat := by
        have := congrArg List.length e
        rw [List.length_drop, List.length_append] at this; omega
      have hj2 : (a + 1).toNat + j < old.length := by omega
      have ej2 : old[(a + 1).toNat + j] = b := by
        have : (old.drop (a + 1).toNat)[j]? = some b := by
          rw [e, List.getElem?_append_left hj, List.getElem?_eq_getElem hj, ej]
        rw [List.getElem?_drop, List.getElem?_eq_getElem hj2] at this
        exact Option.some.inj this
      have hidx : old.idxOf b = (a + 1).toNat + j := by
        rw [← ej2]; exact hn.idxOf_getElem _ hj2
      have hp : pos old b = (old.idxOf b : Int) := if_pos hb
      refine ⟨by rw [hp]; omega, (inc_sub old hn l (pos old b) (by rw [hp]; omega)).mpr ?_⟩
      have e1 : (pos old b + 1).toNat = old.idxOf b + 1 := by rw [hp]; omega
      rw [e1]
      refine h2.trans ?_
      have e2 : r2 = old.drop ((a + 1).toNat + r1.length) := by
        have : (old.drop (a + 1).toNat).drop r1.length = r2 := by rw [e]; simp
        rw [← this, List.drop_drop]
      rw [e2, hidx]
      have : old.drop ((a + 1).toNat + r1.length) = (old.drop ((a + 1).toNat + j + 1)).drop (r1.length - (j + 1)) := by
        rw [List.drop_drop]; congr 1; omega
      rw [this]
      exact List.drop_sublist _ _
theorem mem_standing_sub {old lot : List Nat} (hn : old.Nodup) (q : Nat × Nat) : q ∈ standing old lot ↔ q.1 < q.2 ∧ q.2 ≤ lot.length ∧ (seg lot q.1 q.2).Sublist old := by
  rw [mem_standing_iff, inc_sub old hn _ _ (by omega)]
  simp
/-- a stretch D of lot holds -/
structure Hs (ps : List (Option Int)) (old lot D : List Nat) : Prop where
  ne : D ≠ []
  inf : D <:+: lot
  sub : D.Sublist old
  fix : ∀ x ∈ lot, pr ps x = none → x ∈ D
theorem seg_split (lot : List Nat) {f p : Nat} (h1 : f ≤ p) : lot = lot.take f ++ (seg lot f p ++ lot.drop p) := by
  unfold seg
  have : lot.drop p = (lot.drop f).drop (p - f) := by rw [List.drop_drop]; congr 1; omega
  rw [this, List.take_append_drop, List.take_append_drop]
theorem seg_length {lot : List Nat} {f p : Nat} (h2 : p ≤ lot.length) : (seg lot f p).length = p - f := by
  unfold seg; rw [List.length_take, List.length_drop]; omega
theorem hold_iff {ps : List (Option Int)} {old lot : List Nat} (hn : old.Nodup) (q : Nat × Nat) : q ∈ hold ps old lot ↔ q.1 < q.2 ∧ q.2 ≤ lot.length ∧ Hs ps old lot (seg lot q.1 q.2) := by
  unfold hold
  rw [List.mem_filter, mem_standing_sub hn]
  constructor
  · rintro ⟨⟨h1, h2, h3⟩, h4⟩
    refine ⟨h1, h2, ?_, ⟨lot.take q.1, lot.drop q.2, ?_⟩, h3, fun x hx hf => ?_⟩
    · intro e
      have := seg_length (lot := lot) (f := q.1) h2
      rw [e] at this; simp at this; omega
    · rw [List.append_assoc]; exact (seg_split lot (by omega)).symm
    · have := List.all_eq_true.mp h4 x (List.mem_filter.mpr ⟨hx, decide_eq_true hf⟩)
      exact of_decide_eq_true this
  · rintro ⟨h1, h2, h3⟩
    refine ⟨⟨h1, h2, h3.sub⟩, List.all_eq_true.mpr fun x hx => ?_⟩
    obtain ⟨hx, hf⟩ := List.mem_filter.mp hx
    exact decide_eq_true (h3.fix x hx (of_decide_eq_true hf))
theorem Hs.place {ps : List (Option Int)} {old lot D : List Nat} (hn : old.Nodup) (h : Hs ps old lot D) : ∃ q ∈ hold ps old lot, seg lot q.1 q.2 = D := by
  obtain ⟨s, t, e⟩ := h.inf
  have e2 : seg lot s.length (s.length + D.length) = D := by
    unfold seg
    rw [← e]
    simp
  have hl : s.length + D.length ≤ lot.length := by rw [← e]; simp
  have hD : 0 < D.length := List.length_pos_iff.mpr h.ne
  refine ⟨(s.length, s.length + D.length), (hold_iff hn _).mpr ⟨by show s.length < s.length + D.length; omega, hl, ?_⟩, e2⟩
  show Hs ps old lot (seg lot s.length (s.length + D.length))
  rw [e2]; exact h
/-! ### weights -/
def sw (w : Nat → Int) (l : List Nat) : Int := (l.map w).sum
theorem sw_nil (w : Nat → Int) : sw w [] = 0 := rfl
theorem sw_cons (w : Nat → Int) (b : Nat) (l : List Nat) : sw w (b :: l) = w b + sw w l := by simp [sw]
theorem sw_app (w : Nat → Int) (l m : List Nat) : sw w (l ++ m) = sw w l + sw w m := by simp [sw]
theorem sw_perm {w : Nat → Int} {l m : List Nat} (h : l.Perm m) : sw w l = sw w m := by
  induction h with
  | nil => rfl
  | cons x _ ih => rw [sw_cons, sw_cons, ih]
  | swap x y l => simp only [sw_cons]; omega
  | trans _ _ h1 h2 => rw [h1, h2]
theorem sw_nonneg {w : Nat → Int} (h : ∀ b, 0 ≤ w b) : ∀ l, 0 ≤ sw w l
  | [] => by simp [sw]
  | b :: l => by rw [sw_cons]; have := h b; have := sw_nonneg h l; omega
theorem sw_sub {w : Nat → Int} (h : ∀ b, 0 ≤ w b) {l m : List Nat} (s : l.Sublist m) : sw w l ≤ sw w m := by
  induction s with
  | slnil => simp
  | cons a s ih => rw [sw_cons]; have := h a; omega
  | cons_cons a s ih => rw [sw_cons, sw_cons]; omega
theorem sw_filter (w : Nat → Int) (p : Nat → Bool) : ∀ l, sw w l = sw w (l.filter p) + sw w (l.filter fun x => !p x)
  | [] => rfl
  | b :: l => by
    have ih := sw_filter w p l
    cases q : p b <;> simp only [List.filter_cons, q, sw_cons] <;> simp <;> rw [sw_cons] <;> omega
theorem sub_filter {A l : List Nat} (hn : l.Nodup) (s : A.Sublist l) : l.filter (fun x => decide (x ∈ A)) = A := by
  induction s with
  | slnil => rfl
  | @cons A l a s ih =>
    obtain ⟨h1, h2⟩ := List.nodup_cons.mp hn
    rw [List.filter_cons, if_neg (by simp; exact fun z => h1 (s.subset z))]
    exact ih h2
  | @cons_cons A l a s ih =>
    obtain ⟨h1, h2⟩ := List.nodup_cons.mp hn
    rw [List.filter_cons, if_pos (by simp)]
    congr 1
    rw [← ih h2]
    refine List.filter_congr fun x hx => ?_
    have : x ≠ a := fun e => h1 (e ▸ hx)
    rw [ih h2]
    simp [this]
def mk (ps : List (Option Int)) (w : Nat → Int) (old lot : List Nat) : Int := if hold ps old lot = [] then 0 else maxI ((hold ps old lot).map fun q => sw w (seg lot q.1 q.2))
section
variable {ps : List (Option Int)} {w : Nat → Int}
theorem mk_ge {old lot D : List Nat} (hn : old.Nodup) (h : Hs ps old lot D) : sw w D ≤ mk ps w old lot := by
  obtain ⟨q, hq, e⟩ := h.place hn
  have ne : hold ps old lot ≠ [] := fun z => by rw [z] at hq; cases hq
  unfold mk
  rw [if_neg ne, ← e]
  exact (maxI_spec (by simpa using ne)).2 _ (List.mem_map.mpr ⟨q, hq, rfl⟩)
theorem mk_at {old lot : List Nat} (hn : old.Nodup) : (hold ps old lot = [] ∧ mk ps w old lot = 0) ∨ ∃ D, Hs ps old lot D ∧ mk ps w old lot = sw w D := by
  by_cases h : hold ps old lot = []
  · left; exact ⟨h, if_pos h⟩
  · right
    have := (maxI_spec (l := (hold ps old lot).map fun q => sw w (seg lot q.1 q.2)) (by simpa using h)).1
    obtain ⟨q, hq, e⟩ := List.mem_map.mp this
    refine ⟨_, ((hold_iff hn q).mp hq).2.2, ?_⟩
    unfold mk; rw [if_neg h, e]
theorem hold_nil {old lot : List Nat} (hn : old.Nodup) : hold ps old lot = [] ↔ ∀ D, ¬ Hs ps old lot D := by
  constructor
  · intro h D hD
    obtain ⟨q, hq, _⟩ := hD.place hn
    rw [h] at hq; cases hq
  · intro h
    cases q : hold ps old lot with
    | nil => rfl
    | cons x l => exact absurd ((hold_iff hn x).mp (by rw [q]; simp)).2.2 (h _)
theorem mk_nonneg {old lot : List Nat} (hn : old.Nodup) (h : ∀ b, 0 ≤ w b) : 0 ≤ mk ps w old lot := by
  rcases mk_at (ps := ps) (w := w) (lot := lot) hn with ⟨_, e⟩ | ⟨D, _, e⟩
  · rw [e]; omega
  · rw [e]; exact sw_nonneg h D
theorem mk_le {old lot : List Nat} (hn : old.Nodup) (h : ∀ b, 0 ≤ w b) : mk ps w old lot ≤ sw w lot := by
  rcases mk_at (ps := ps) (w := w) (lot := lot) hn with ⟨_, e⟩ | ⟨D, hD, e⟩
  · rw [e]; exact sw_nonneg h lot
  · rw [e]; exact sw_sub h hD.inf.sublist
theorem mk_leO {old lot : List Nat} (hn : old.Nodup) (h : ∀ b, 0 ≤ w b) : mk ps w old lot ≤ sw w old := by
  rcases mk_at (ps := ps) (w := w) (lot := lot) hn with ⟨_, e⟩ | ⟨D, hD, e⟩
  · rw [e]; exact sw_nonneg h old
  · rw [e]; exact sw_sub h hD.sub
theorem filter_none {p : Nat → Bool} {l : List Nat} (h : ∀ x ∈ l, p x = false) : l.filter p = [] := by
  rw [List.filter_eq_nil_iff]; intro x hx; rw [h x hx]; simp
/-- two stretches, one behind another -/
theorem meet {a b c A B : List Nat} (nb : b.Nodup) (hA : Hs ps a b A) (hB : Hs ps b c B) (hf : ∀ x, pr ps x = none → (x ∈ b ↔ x ∈ c)) :
    ∃ D, D = B.filter (fun x => decide (x ∈ A)) ∧ D <:+: c ∧ D.Sublist a ∧ ∀ x ∈ c, pr ps x = none → x ∈ D := by
  refine ⟨_, rfl, ?_, ?_, fun x hx hn => ?_⟩
  · obtain ⟨s, t, e⟩ := hA.inf
    have hs := hB.sub
    rw [← e, List.append_assoc] at hs
    obtain ⟨B1, B', e1, s1, s'⟩ := List.sublist_append_iff.mp hs
    obtain ⟨B2, B3, e2, s2, s3⟩ := List.sublist_append_iff.mp s'
    have nb' := nb
    rw [← e, List.append_assoc] at nb'
    obtain ⟨_, n2, d1⟩ := List.nodup_append.mp nb'
    obtain ⟨_, _, d2⟩ := List.nodup_append.mp n2
    have f1 : B1.filter (fun x => decide (x ∈ A)) = [] := filter_none fun x hx => by
      simp; intro z; exact d1 x (s1.subset hx) x (List.mem_append_left _ z) rfl
    have f3 : B3.filter (fun x => decide (x ∈ A)) = [] := filter_none fun x hx => by
      simp; intro z; exact d2 x z x (s3.subset hx) rfl
    have f2 : B2.filter (fun x => decide (x ∈ A)) = B2 := List.filter_eq_self.mpr fun x hx => by simp; exact s2.subset hx
    have : B.filter (fun x => decide (x ∈ A)) = B2 := by rw [e1, e2, List.filter_append, List.filter_append, f1, f2, f3]; simp
    rw [this]
    exact (show B2 <:+: B from ⟨B1, B3, by rw [e1, e2, List.append_assoc]⟩).trans hB.inf
  · have h1 : (B.filter (fun x => decide (x ∈ A))).Sublist (b.filter fun x => decide (x ∈ A)) := hB.sub.filter _
    rw [sub_filter nb hA.inf.sublist] at h1
    exact h1.trans hA.sub
  · refine List.mem_filter.mpr ⟨hB.fix x hx hn, decide_eq_true (hA.fix x ((hf x hn).mpr hx) hn)⟩
theorem tri {a b c : List Nat} (na : a.Nodup) (nb : b.Nodup) (h : ∀ b, 0 ≤ w b) (hf : ∀ x, pr ps x = none → (x ∈ b ↔ x ∈ c)) : mk ps w a b + mk ps w b c ≤ sw w b + mk ps w a c := by
  have h0 := mk_nonneg (ps := ps) (lot := c) na h
  rcases mk_at (ps := ps) (w := w) (lot := b) na with ⟨_, e⟩ | ⟨A, hA, e⟩
  · rw [e]; have := mk_leO (ps := ps) (lot := c) nb h; omega
  · rcases mk_at (ps := ps) (w := w) (lot := c) nb with ⟨_, e2⟩ | ⟨B, hB, e2⟩
    · rw [e2]; have := mk_le (ps := ps) (lot := b) na h; omega
    · obtain ⟨D, eD, d1, d2, d3⟩ := meet nb hA hB hf
      have h1 : sw w D ≤ mk ps w a c := by
        by_cases z : D = []
        · rw [z, sw_nil]; exact h0
        · exact mk_ge na ⟨z, d1, d2, d3⟩
      have h2 := sw_filter w (fun x => decide (x ∈ A)) B
      have h3 := sw_filter w (fun x => decide (x ∈ A)) b
      rw [sub_filter nb hA.inf.sublist] at h3
      have h4 : sw w (B.filter fun x => !decide (x ∈ A)) ≤ sw w (b.filter fun x => !decide (x ∈ A)) := sw_sub h (hB.sub.filter _)
      rw [← eD] at h2
      rw [e, e2]; omega
theorem hold_tri {a b c : List Nat} (na : a.Nodup) (nb : b.Nodup) (hf : ∀ x, pr ps x = none → (x ∈ b ↔ x ∈ c)) (hc : fixedIn ps c ≠ []) (h1 : hold ps a b ≠ []) (h2 : hold ps b c ≠ []) : hold ps a c ≠ [] := by
  have g1 : ∃ A, Hs ps a b A := Classical.byContradiction fun z => h1 ((hold_nil na).mpr fun D hD => z ⟨D, hD⟩)
  have g2 : ∃ A, Hs ps b c A := Classical.byContradiction fun z => h2 ((hold_nil nb).mpr fun D hD => z ⟨D, hD⟩)
  obtain ⟨A, hA⟩ := g1
  obtain ⟨B, hB⟩ := g2
  obtain ⟨D, eD, d1, d2, d3⟩ := meet nb hA hB hf
  intro z
  refine (hold_nil na).mp z D ⟨fun e => ?_, d1, d2, d3⟩
  cases q : fixedIn ps c with
  | nil => exact hc q
  | cons x l =>
    have hx : x ∈ fixedIn ps c := by rw [q]; simp
    obtain ⟨hx1, hx2⟩ := List.mem_filter.mp hx
    have := d3 x hx1 (of_decide_eq_true hx2)
    rw [e] at this; cases this
end
end Wk

/-! PB: what a goal costs, from one shelf to another. -/
namespace Wk
open Sm
section
variable {ps : List (Option Int)}
def pw (ps : List (Option Int)) (b : Nat) : Int := (pr ps b).getD 0
def fw (ps : List (Option Int)) (b : Nat) : Int := if pr ps b = none then 0 else 1
theorem price_sw (l : List Nat) : price ps l = sw (pw ps) l := rfl
theorem fw_nonneg (b : Nat) : 0 ≤ fw ps b := by unfold fw; split <;> omega
theorem pw_nonneg (h : ∀ i, some i ∈ ps → 1 ≤ i ∧ i ≤ 99) (b : Nat) : 0 ≤ pw ps b := by
  unfold pw pr
  cases q : ps[b]? with
  | none => simp
  | some o => cases o with
    | none => simp
    | some i => have := h i (List.mem_of_getElem? q); simp; omega
theorem maxI_shift {α : Type} {l : List α} {f g : α → Int} {c : Int} (hl : l ≠ []) (h : ∀ q ∈ l, f q = g q + c) : maxI (l.map f) = maxI (l.map g) + c := by
  obtain ⟨h1, h2⟩ := maxI_spec (l := l.map f) (by simpa using hl)
  obtain ⟨h3, h4⟩ := maxI_spec (l := l.map g) (by simpa using hl)
  obtain ⟨x, hx, ex⟩ := List.mem_map.mp h1
  obtain ⟨y, hy, ey⟩ := List.mem_map.mp h3
  have a1 := h4 _ (List.mem_map.mpr ⟨x, hx, rfl⟩)
  have a2 := h2 _ (List.mem_map.mpr ⟨y, hy, rfl⟩)
  rw [h x hx] at ex
  rw [h y hy] at a2
  omega
theorem best_ne {old lot : List Nat} (h : hold ps old lot ≠ []) : best ps old lot ≠ [] := by
  have h1 := (maxI_spec (l := (hold ps old lot).map fun q => price ps (seg lot q.1 q.2)) (by simpa using h)).1
  obtain ⟨q, hq, e⟩ := List.mem_map.mp h1
  intro z
  have : q ∈ best ps old lot := List.mem_filter.mpr ⟨hq, decide_eq_true e⟩
  rw [z] at this; cases this
theorem best_price {old lot : List Nat} {q : Nat × Nat} (h : q ∈ best ps old lot) : q ∈ hold ps old lot ∧ price ps (seg lot q.1 q.2) = mk ps (pw ps) old lot := by
  obtain ⟨h1, h2⟩ := List.mem_filter.mp h
  refine ⟨h1, (of_decide_eq_true h2).trans ?_⟩
  unfold mk
  rw [if_neg (fun z => by rw [z] at h1; cases h1)]
  rfl
theorem best_nil {old lot : List Nat} (h : hold ps old lot = []) : best ps old lot = [] := by unfold best; rw [h]; rfl
theorem chosen_or (ls gl : List (List Nat)) (n : Nat) : (hold ps (ls.getD n []) (gl.getD n []) = [] ∧ chosen ps ls gl n = (0, 0)) ∨ chosen ps ls gl n ∈ best ps (ls.getD n []) (gl.getD n []) := by
  by_cases h : hold ps (ls.getD n []) (gl.getD n []) = []
  · left; refine ⟨h, ?_⟩; unfold chosen; rw [best_nil h]; rfl
  · right
    unfold chosen
    cases q : best ps (ls.getD n []) (gl.getD n []) with
    | nil => exact absurd q (best_ne h)
    | cons x l => simp
theorem kept_price (ls gl : List (List Nat)) (n : Nat) : price ps (kept ps ls gl n) = mk ps (pw ps) (ls.getD n []) (gl.getD n []) := by
  rcases chosen_or (ps := ps) ls gl n with ⟨h, e⟩ | h
  · unfold kept; rw [e]
    have : mk ps (pw ps) (ls.getD n []) (gl.getD n []) = 0 := if_pos h
    rw [this]; simp [seg, price]
  · exact (best_price h).2
theorem fixed_seg {lot D : List Nat} (hn : lot.Nodup) (s : D.Sublist lot) (hf : ∀ x ∈ lot, pr ps x = none → x ∈ D) : fixedIn ps D = fixedIn ps lot := by
  have e := sub_filter hn s
  unfold fixedIn
  conv => lhs; rw [← e]
  rw [List.filter_filter]
  refine List.filter_congr fun x hx => ?_
  by_cases h : pr ps x = none
  · simp [h, hf x hx h]
  · simp [h]
theorem fw_sw : ∀ l : List Nat, sw (fw ps) l = (l.length : Int) - ((fixedIn ps l).length : Int)
  | [] => rfl
  | b :: l => by
    rw [sw_cons, fw_sw l]
    unfold fixedIn
    by_cases h : pr ps b = none
    · simp [fw, h, List.filter_cons]; omega
    · simp [fw, h, List.filter_cons]; omega
theorem long_mk {old lot : List Nat} (ho : old.Nodup) (hn : lot.Nodup) : long ps old lot = mk ps (fw ps) old lot := by
  unfold long mk
  by_cases h : hold ps old lot = []
  · rw [if_pos h, if_pos h]
  · rw [if_neg h, if_neg h]
    rw [maxI_shift (g := fun q => sw (fw ps) (seg lot q.1 q.2)) (c := ((fixedIn ps lot).length : Int)) h fun q hq => ?_]
    · omega
    · obtain ⟨h1, h2, h3⟩ := (hold_iff ho q).mp hq
      rw [fw_sw, fixed_seg hn h3.inf.sublist h3.fix, seg_length h2]; omega
/-! ### lots -/
theorem Lots.at {n k : Nat} {ls : List (List Nat)} (L : Lots n k ls) {i : Nat} (hi : i < ls.length) (x : Nat) : x ∈ ls.getD i [] ↔ x < n ∧ whereIn ls x = i := by
  have key : ∀ j (hj : j < ls.length), x ∈ ls[j] → whereIn ls x = j := fun j hj hx => by
    have h1 : whereIn ls x < ls.length := List.findIdx_lt_length_of_exists ⟨ls[j], List.getElem_mem hj, by simpa using hx⟩
    have h2 : x ∈ ls[whereIn ls x] := by
      have h3 : whereIn ls x = ls.findIdx fun l => decide (x ∈ l) := rfl
      have := List.findIdx_getElem (p := fun l => decide (x ∈ l)) (xs := ls) (w := h1)
      exact of_decide_eq_true this
    have hp := (List.pairwise_flatten.mp L.nd).2
    rcases Nat.lt_trichotomy (whereIn ls x) j with h | h | h
    · exact absurd rfl (List.pairwise_iff_getElem.mp hp _ _ h1 hj h x h2 x hx)
    · exact h
    · exact absurd rfl (List.pairwise_iff_getElem.mp hp _ _ hj h1 h x hx x h2)
  rw [getD_lt hi]
  constructor
  · intro hx; exact ⟨L.mem (List.getElem_mem hi) hx, key i hi hx⟩
  · rintro ⟨h1, h2⟩
    obtain ⟨l, hl, hx⟩ := L.there h1
    obtain ⟨j, hj, rfl⟩ := List.mem_iff_getElem.mp hl
    have := key j hj hx
    rw [h2] at this
    subst this; exact hx
theorem Lots.nodupD {n k : Nat} {ls : List (List Nat)} (L : Lots n k ls) (i : Nat) : (ls.getD i []).Nodup := by
  by_cases h : i < ls.length
  · rw [getD_lt h]; exact L.nodup (List.getElem_mem h)
  · rw [show ls.getD i [] = [] by simp [Nat.le_of_not_lt h]]; exact List.nodup_nil
theorem Lots.perm {n k : Nat} {ls : List (List Nat)} (L : Lots n k ls) : ls.flatten.Perm (List.range n) :=
  (List.perm_ext_iff_of_nodup L.nd List.nodup_range).mpr fun x => by rw [L.cov]; simp
theorem Lots.of_perm {n k : Nat} {ls : List (List Nat)} (ne : ls ≠ []) (le : ls.length ≤ k) (p : ls.flatten.Perm (List.range n)) : Lots n k ls :=
  ⟨ne, le, p.nodup_iff.mpr List.nodup_range, fun b => by rw [p.mem_iff]; simp⟩
theorem sumAt (w : Nat → Int) (ls : List (List Nat)) : ((List.range ls.length).map fun n => sw w (ls.getD n [])).sum = sw w ls.flatten := by
  induction ls with
  | nil => rfl
  | cons l ls ih =>
    rw [List.length_cons, List.range_succ_eq_map, List.map_cons, List.sum_cons, List.map_map]
    have : (List.map ((fun n => sw w ((l :: ls).getD n [])) ∘ Nat.succ) (List.range ls.length)) = (List.range ls.length).map fun n => sw w (ls.getD n []) := by
      refine List.map_congr_left fun n _ => ?_
      simp
    rw [this, ih, List.flatten_cons, sw_app]; simp
/-! ### what is not put: for a weight -/
def CS (ps : List (Option Int)) (w : Nat → Int) (ls gl : List (List Nat)) : Int := sw w (List.range ps.length) - ((List.range gl.length).map fun n => mk ps w (ls.getD n []) (gl.getD n [])).sum
theorem cost_CS (ls gl : List (List Nat)) : costOf ps ls gl = CS ps (pw ps) ls gl := by
  unfold costOf costTo CS
  rw [price_sw]
  congr 2
  exact List.map_congr_left fun n _ => kept_price ls gl n
theorem free_len : ∀ (qs : List (Option Int)) (k : Nat), ((qs.filter fun p => decide (p ≠ none)).length : Int) = ((List.range qs.length).map fun b => if (qs[b]?).getD none = none then (0 : Int) else 1).sum
  | [], _ => rfl
  | q :: qs, k => by
    rw [List.length_cons, List.range_succ_eq_map, List.map_cons, List.sum_cons, List.map_map]
    have ih := free_len qs k
    have : (List.map ((fun b => if ((q :: qs)[b]?).getD none = none then (0 : Int) else 1) ∘ Nat.succ) (List.range qs.length)) = (List.range qs.length).map fun b => if (qs[b]?).getD none = none then (0 : Int) else 1 := by
      refine List.map_congr_left fun n _ => ?_
      simp
    rw [this, ← ih]
    cases q <;> simp [List.filter_cons]; omega
theorem few_CS {n k m : Nat} {ls gl : List (List Nat)} (L : Lots n k ls) (G : Lots n m gl) : fewOf ps ls gl = CS ps (fw ps) ls gl := by
  unfold fewOf CS
  rw [free_len ps 0]
  congr 2
  refine List.map_congr_left fun i _ => ?_
  exact long_mk (L.nodupD i) (G.nodupD i)
theorem sum_le {l : List Nat} {f g : Nat → Int} (h : ∀ n ∈ l, f n ≤ g n) : (l.map f).sum ≤ (l.map g).sum := by
  induction l with
  | nil => simp
  | cons a l ih =>
    simp only [List.map_cons, List.sum_cons]
    have := h a (by simp)
    have := ih fun n hn => h n (List.mem_cons_of_mem _ hn)
    omega
theorem sum_add {l : List Nat} {f g : Nat → Int} : (l.map fun n => f n + g n).sum = (l.map f).sum + (l.map g).sum := by
  induction l with
  | nil => simp
  | cons a l ih => simp only [List.map_cons, List.sum_cons, ih]; omega
/-- no bar: what it says -/
structure Open (ps : List (Option Int)) (ls gl : List (List Nat)) : Prop where
  lot : ∀ x, x < ps.length → pr ps x = none → whereIn ls x = whereIn gl x
  turn : ∀ n, n < gl.length → fixedIn ps (gl.getD n []) ≠ [] → hold ps (ls.getD n []) (gl.getD n []) ≠ []
theorem bar_open {ls gl : List (List Nat)} : barOf ps ls gl = .none ↔ Open ps ls gl := by
  unfold barOf
  cases q1 : (List.range ps.length).find? (lotBar ps ls gl) with
  | some b =>
    constructor
    · intro h; cases h
    · intro h
      have h1 := List.find?_some q1
      have h2 := List.mem_range.mp (List.mem_of_find?_eq_some q1)
      unfold lotBar at h1
      simp only [Bool.and_eq_true, decide_eq_true_eq, Bool.not_eq_true', decide_eq_false_iff_not] at h1
      exact absurd (h.lot b h2 h1.1) h1.2
  | none =>
    have n1 := List.find?_eq_none.mp q1
    cases q2 : (List.range gl.length).find? (turnBar ps ls gl) with
    | some n =>
      constructor
      · intro h; cases h
      · intro h
        have h1 := List.find?_some q2
        have h2 := List.mem_range.mp (List.mem_of_find?_eq_some q2)
        unfold turnBar at h1
        simp only [Bool.and_eq_true, decide_eq_true_eq, Bool.not_eq_true', decide_eq_false_iff_not] at h1
        exact absurd h1.2 (h.turn n h2 h1.1)
    | none =>
      have n2 := List.find?_eq_none.mp q2
      refine ⟨fun _ => ⟨fun x hx hp => ?_, fun n hn hp => ?_⟩, fun _ => rfl⟩
      · have := n1 x (List.mem_range.mpr hx)
        unfold lotBar at this
        simp only [Bool.and_eq_true, decide_eq_true_eq, Bool.not_eq_true', decide_eq_false_iff_not] at this
        exact Classical.byContradiction fun z => this ⟨hp, z⟩
      · have := n2 n (List.mem_range.mpr hn)
        unfold turnBar at this
        simp only [Bool.and_eq_true, decide_eq_true_eq, Bool.not_eq_true', decide_eq_false_iff_not] at this
        exact fun z => this ⟨hp, z⟩
theorem Open.fix {ls gl : List (List Nat)} {k m : Nat} (L : Lots ps.length k ls) (G : Lots ps.length m gl) (e : gl.length = ls.length) (h : Open ps ls gl) {n : Nat} (hn : n < gl.length) (x : Nat) (hx : pr ps x = none) : x ∈ ls.getD n [] ↔ x ∈ gl.getD n [] := by
  rw [L.at (by omega), G.at hn]
  constructor
  · rintro ⟨h1, h2⟩; exact ⟨h1, by rw [← h.lot x h1 hx]; exact h2⟩
  · rintro ⟨h1, h2⟩; exact ⟨h1, by rw [h.lot x h1 hx]; exact h2⟩
theorem Open.trans {a b c : List (List Nat)} {k m j : Nat} (A : Lots ps.length k a) (B : Lots ps.length m b) (D : Lots ps.length j c) (e1 : b.length = a.length) (e2 : c.length = b.length) (h1 : Open ps a b) (h2 : Open ps b c) : Open ps a c := by
  refine ⟨fun x hx hp => (h1.lot x hx hp).trans (h2.lot x hx hp), fun n hn hf => ?_⟩
  have g2 := h2.turn n hn hf
  refine hold_tri (A.nodupD n) (B.nodupD n) (fun x hx => h2.fix B D e2 hn x hx) hf ?_ g2
  refine h1.turn n (by omega) fun z => hf ?_
  cases q : fixedIn ps (c.getD n []) with
  | nil => rfl
  | cons x l =>
    have hx : x ∈ fixedIn ps (c.getD n []) := by rw [q]; simp
    obtain ⟨hx1, hx2⟩ := List.mem_filter.mp hx
    have hx3 := of_decide_eq_true hx2
    have : x ∈ fixedIn ps (b.getD n []) := List.mem_filter.mpr ⟨(h2.fix B D e2 hn x hx3).mpr hx1, hx2⟩
    rw [z] at this; cases this
theorem CS_tri {w : Nat → Int} (hw : ∀ b, 0 ≤ w b) {a b c : List (List Nat)} {k m j : Nat} (A : Lots ps.length k a) (B : Lots ps.length m b) (D : Lots ps.length j c) (e1 : b.length = a.length) (e2 : c.length = b.length) (h2 : Open ps b c) : CS ps w a c ≤ CS ps w a b + CS ps w b c := by
  unfold CS
  have h3 := sumAt w b
  rw [sw_perm B.perm] at h3
  have h4 : ((List.range c.length).map fun n => mk ps w (a.getD n []) (b.getD n []) + mk ps w (b.getD n []) (c.getD n [])).sum ≤ ((List.range c.length).map fun n => sw w (b.getD n []) + mk ps w (a.getD n []) (c.getD n [])).sum :=
    sum_le fun n hn => tri (A.nodupD n) (B.nodupD n) hw fun x hx => h2.fix B D e2 (List.mem_range.mp hn) x hx
  rw [sum_add, sum_add, e2, h3] at h4
  rw [e2]; omega
theorem Hs.self {l : List Nat} (h : l ≠ []) : Hs ps l l l := ⟨h, List.infix_refl l, List.Sublist.refl l, fun x hx _ => hx⟩
theorem mk_self {w : Nat → Int} (hw : ∀ b, 0 ≤ w b) {l : List Nat} (hn : l.Nodup) : mk ps w l l = sw w l := by
  have h1 := mk_le (ps := ps) (lot := l) hn hw
  by_cases h : l = []
  · subst h; have := mk_nonneg (ps := ps) (lot := []) hn hw; simp [sw] at h1 ⊢; omega
  · have := mk_ge (w := w) hn (Hs.self (ps := ps) h); omega
theorem Open.refl {ls : List (List Nat)} {k : Nat} (L : Lots ps.length k ls) : Open ps ls ls := by
  refine ⟨fun _ _ _ => rfl, fun n hn hf z => ?_⟩
  have : ls.getD n [] ≠ [] := fun e => hf (by rw [e]; rfl)
  exact (hold_nil (L.nodupD n)).mp z _ (Hs.self this)
theorem CS_self {w : Nat → Int} (hw : ∀ b, 0 ≤ w b) {ls : List (List Nat)} {k : Nat} (L : Lots ps.length k ls) : CS ps w ls ls = 0 := by
  unfold CS
  have h3 := sumAt w ls
  rw [sw_perm L.perm] at h3
  rw [← h3]
  have : ((List.range ls.length).map fun n => mk ps w (ls.getD n []) (ls.getD n [])) = (List.range ls.length).map fun n => sw w (ls.getD n []) :=
    List.map_congr_left fun n _ => mk_self hw (L.nodupD n)
  rw [this]; omega
/-! ### one deed -/
theorem placed_at (ls : List (List Nat)) (b k : Nat) (fr : Bool) (hk : k < ls.length) {n : Nat} (hn : n < ls.length) : (placedL ls b k fr).getD n [] = if n = k then (if fr then b :: without b (ls.getD k []) else without b (ls.getD k []) ++ [b]) else without b (ls.getD n []) := by
  unfold placedL
  by_cases h : n = k
  · subst h; simp [hn]
  · rw [if_neg h]
    simp [List.getElem?_set, Ne.symm h, hn]
theorem Lots.placed {n k : Nat} {ls : List (List Nat)} (L : Lots n k ls) {b j : Nat} {fr : Bool} (hb : b < n) (hj : j < ls.length) : Lots n k (placedL ls b j fr) := by
  have hl := placed_len ls b j fr
  refine Lots.of_perm (fun z => ?_) (by rw [hl]; exact L.le) (placed_perm ls n b j fr L.perm hb hj)
  rw [z] at hl
  have : ls.length ≠ 0 := fun e => L.ne (List.eq_nil_of_length_eq_zero e)
  simp at hl; omega
theorem mem_without {b x : Nat} {l : List Nat} : x ∈ without b l ↔ x ∈ l ∧ x ≠ b := by simp [without]
theorem placed_mem {ls : List (List Nat)} {b k : Nat} {fr : Bool} (hk : k < ls.length) {n : Nat} (hn : n < ls.length) {x : Nat} (hx : x ≠ b) : x ∈ (placedL ls b k fr).getD n [] ↔ x ∈ ls.getD n [] := by
  rw [placed_at ls b k fr hk hn]
  by_cases h : n = k
  · subst h; rw [if_pos rfl]
    cases fr <;> simp [mem_without, hx]
  · rw [if_neg h, mem_without]; simp [hx]
theorem without_infix {ls : List (List Nat)} {b k : Nat} {fr : Bool} (hk : k < ls.length) {n : Nat} (hn : n < ls.length) : without b (ls.getD n []) <:+: (placedL ls b k fr).getD n [] := by
  rw [placed_at ls b k fr hk hn]
  by_cases h : n = k
  · subst h; rw [if_pos rfl]
    cases fr
    · exact ⟨[], [b], by simp⟩
    · exact ⟨[b], [], by simp⟩
  · rw [if_neg h]; exact List.infix_refl _
theorem Open.deed {ls : List (List Nat)} {k : Nat} (L : Lots ps.length k ls) {b j : Nat} {fr : Bool} (hb : b < ps.length) (hj : j < ls.length) (hp : pr ps b ≠ none) : Open ps ls (placedL ls b j fr) := by
  have P := L.placed (fr := fr) hb hj
  have hl := placed_len ls b j fr
  refine ⟨fun x hx hn => ?_, fun n hn hf => ?_⟩
  · have hxb : x ≠ b := fun e => hp (e ▸ hn)
    obtain ⟨l, hl2, hxl⟩ := L.there hx
    obtain ⟨i, hi, rfl⟩ := List.mem_iff_getElem.mp hl2
    have h1 : x ∈ ls.getD i [] := by rw [getD_lt hi]; exact hxl
    have h2 := (placed_mem (fr := fr) hj hi hxb).mpr h1
    rw [((L.at hi x).mp h1).2, ((P.at (by omega) x).mp h2).2]
  · rw [hl] at hn
    intro z
    cases q : fixedIn ps ((placedL ls b j fr).getD n []) with
    | nil => exact hf q
    | cons x l =>
      have hx : x ∈ fixedIn ps ((placedL ls b j fr).getD n []) := by rw [q]; simp
      obtain ⟨hx1, hx2⟩ := List.mem_filter.mp hx
      have hx3 := of_decide_eq_true hx2
      have key : ∀ y ∈ (placedL ls b j fr).getD n [], pr ps y = none → y ∈ without b (ls.getD n []) := fun y hy hy2 => by
        have hyb : y ≠ b := fun e => hp (e ▸ hy2)
        exact mem_without.mpr ⟨(placed_mem hj hn hyb).mp hy, hyb⟩
      refine (hold_nil (L.nodupD n)).mp z (without b (ls.getD n [])) ⟨fun e => ?_, without_infix hj hn, List.filter_sublist, key⟩
      have := key x hx1 hx3
      rw [e] at this; cases this
theorem sw_without (w : Nat → Int) {b : Nat} : ∀ {l : List Nat}, l.Nodup → sw w l = sw w (without b l) + if b ∈ l then w b else 0
  | [], _ => by simp [sw, without]
  | a :: l, h => by
    obtain ⟨h1, h2⟩ := List.nodup_cons.mp h
    have ih := sw_without w (b := b) h2
    by_cases e : a = b
    · subst e
      have : without a (a :: l) = without a l := by simp [without, List.filter_cons]
      rw [this, sw_cons, ih, if_neg h1, if_pos (by simp)]; omega
    · have e2 : without b (a :: l) = a :: without b l := by simp [without, List.filter_cons, e]
      rw [e2, sw_cons, sw_cons, ih]
      have : (b ∈ a :: l) ↔ b ∈ l := by simp [Ne.symm e]
      simp only [this]; omega
theorem CS_deed {w : Nat → Int} (hw : ∀ b, 0 ≤ w b) {ls : List (List Nat)} {k : Nat} (L : Lots ps.length k ls) {b j : Nat} {fr : Bool} (hb : b < ps.length) (hj : j < ls.length) (hp : pr ps b ≠ none) : CS ps w ls (placedL ls b j fr) ≤ w b := by
  unfold CS
  have hl := placed_len ls b j fr
  rw [hl]
  have h3 := sumAt w ls
  rw [sw_perm L.perm] at h3
  have h4 : ((List.range ls.length).map fun n => sw w (without b (ls.getD n []))).sum ≤ ((List.range ls.length).map fun n => mk ps w (ls.getD n []) ((placedL ls b j fr).getD n [])).sum := by
    refine sum_le fun n hn => ?_
    have hn := List.mem_range.mp hn
    by_cases z : without b (ls.getD n []) = []
    · rw [z, sw_nil]; exact mk_nonneg (L.nodupD n) hw
    · refine mk_ge (L.nodupD n) ⟨z, without_infix hj hn, List.filter_sublist, fun y hy hy2 => ?_⟩
      have hyb : y ≠ b := fun e => hp (e ▸ hy2)
      exact mem_without.mpr ⟨(placed_mem hj hn hyb).mp hy, hyb⟩
  have h5 : ((List.range ls.length).map fun n => sw w (ls.getD n [])).sum = ((List.range ls.length).map fun n => sw w (without b (ls.getD n []))).sum + ((List.range ls.length).map fun n => if b ∈ ls.getD n [] then w b else 0).sum := by
    rw [← sum_add]
    congr 1
    exact List.map_congr_left fun n _ => sw_without w (L.nodupD n)
  have h6 : ((List.range ls.length).map fun n => if b ∈ ls.getD n [] then w b else 0).sum = w b := by
    have hwh : whereIn ls b < ls.length := by
      obtain ⟨l, hl, hx⟩ := L.there hb
      exact List.findIdx_lt_length_of_exists ⟨l, hl, by simpa using hx⟩
    have : ((List.range ls.length).map fun n => if b ∈ ls.getD n [] then w b else 0) = (List.range ls.length).map fun n => if n = whereIn ls b then w b else 0 := by
      refine List.map_congr_left fun n hn => ?_
      have := L.at (List.mem_range.mp hn) b
      by_cases h : n = whereIn ls b
      · rw [if_pos (this.mpr ⟨hb, h.symm⟩), if_pos h]
      · rw [if_neg (fun z => h (this.mp z).2.symm), if_neg h]
    rw [this]
    have one : ∀ (m i : Nat) (c : Int), ((List.range m).map fun n => if n = i then c else 0).sum = if i < m then c else 0 := by
      intro m i c
      induction m with
      | zero => simp
      | succ m ih =>
        rw [List.range_succ, List.map_append, List.sum_append, ih]
        by_cases h1 : i < m
        · rw [if_pos h1, if_pos (by omega)]
          simp [show ¬ m = i by omega]
        · by_cases h2 : i = m
          · subst h2; simp
          · rw [if_neg h1, if_neg (by omega)]
            simp [show ¬ m = i by omega]
    rw [one, if_pos hwh]
  omega
end
end Wk

/-! PC: deeds one behind another; the way leads to the goal. -/
namespace Wk
open Sm
def runD (ls : List (List Nat)) (D : List Deed) : List (List Nat) := D.foldl (fun ls d => placedL ls d.1 d.2.1 d.2.2) ls
def booksD (D : List Deed) : List Nat := D.map (·.1)
def firstsD (k : Nat) (D : List Deed) : List Nat := (D.filter fun d => decide (d.2.1 = k) && d.2.2).map (·.1)
def lastsD (k : Nat) (D : List Deed) : List Nat := (D.filter fun d => decide (d.2.1 = k) && !d.2.2).map (·.1)
theorem runD_snoc (ls : List (List Nat)) (D : List Deed) (d : Deed) : runD ls (D ++ [d]) = placedL (runD ls D) d.1 d.2.1 d.2.2 := by simp [runD]
theorem runD_len (ls : List (List Nat)) : ∀ (D : List Deed), (runD ls D).length = ls.length := by
  intro D
  induction D generalizing ls with
  | nil => rfl
  | cons d D ih => 
    have : runD ls (d :: D) = runD (placedL ls d.1 d.2.1 d.2.2) D := rfl
    rw [this, ih, placed_len]
theorem runD_app (ls : List (List Nat)) (D E : List Deed) : runD ls (D ++ E) = runD (runD ls D) E := by simp [runD]
theorem without_not {b : Nat} {l : List Nat} (h : b ∉ l) : without b l = l := List.filter_eq_self.mpr fun x hx => by simp; exact fun e => h (e ▸ hx)
theorem without_app (b : Nat) (l m : List Nat) : without b (l ++ m) = without b l ++ without b m := by simp [without]
theorem firsts_mem {k : Nat} {D : List Deed} {x : Nat} (h : x ∈ firstsD k D) : x ∈ booksD D := by
  obtain ⟨d, hd, e⟩ := List.mem_map.mp h
  exact List.mem_map.mpr ⟨d, (List.mem_filter.mp hd).1, e⟩
theorem lasts_mem {k : Nat} {D : List Deed} {x : Nat} (h : x ∈ lastsD k D) : x ∈ booksD D := by
  obtain ⟨d, hd, e⟩ := List.mem_map.mp h
  exact List.mem_map.mpr ⟨d, (List.mem_filter.mp hd).1, e⟩
theorem runD_at (ls : List (List Nat)) : ∀ (m : Nat) (D : List Deed), D.length = m → (booksD D).Nodup → (∀ d ∈ D, d.2.1 < ls.length) → ∀ n, n < ls.length →
    (runD ls D).getD n [] = (firstsD n D).reverse ++ ((ls.getD n []).filter fun x => !decide (x ∈ booksD D)) ++ lastsD n D := by
  intro m
  induction m with
  | zero =>
    intro D hD _ _ n hn
    have := List.eq_nil_of_length_eq_zero hD
    subst this
    have : (ls.getD n []).filter (fun x => !decide (x ∈ booksD [])) = ls.getD n [] := List.filter_eq_self.mpr fun x _ => by simp [booksD]
    rw [this]; simp [runD, firstsD, lastsD]
  | succ m ih =>
    intro D hD hn hk n hln
    rcases List.eq_nil_or_concat D with rfl | ⟨E, d, rfl⟩
    · simp at hD
    · rw [List.concat_eq_append] at hD hn hk ⊢
      have hE : E.length = m := by simpa using hD
      have hb : booksD (E ++ [d]) = booksD E ++ [d.1] := by simp [booksD]
      rw [hb] at hn
      obtain ⟨n1, _, n2⟩ := List.nodup_append.mp hn
      have hnb : d.1 ∉ booksD E := fun z => n2 _ z _ (by simp) rfl
      have ihn := ih E hE n1 (fun d hd => hk d (List.mem_append_left _ hd))
      have hkd : d.2.1 < (runD ls E).length := by rw [runD_len]; exact hk d (by simp)
      rw [runD_snoc, placed_at _ _ _ _ hkd (by rw [runD_len]; exact hln)]
      have hw : ∀ j, j < ls.length → without d.1 ((runD ls E).getD j []) = (firstsD j E).reverse ++ ((ls.getD j []).filter fun x => !decide (x ∈ booksD (E ++ [d]))) ++ lastsD j E := fun j hj => by
        rw [ihn j hj, without_app, without_app, without_not (fun z => hnb (firsts_mem (List.mem_reverse.mp z))), without_not (fun z => hnb (lasts_mem z))]
        congr 2
        unfold without
        rw [List.filter_filter]
        refine List.filter_congr fun x _ => ?_
        rw [hb]
        by_cases e1 : x = d.1 <;> by_cases e2 : x ∈ booksD E <;> simp [e1, e2]
      by_cases e : n = d.2.1
      · rw [if_pos e, ← e, hw n hln]
        have h1 : firstsD n (E ++ [d]) = firstsD n E ++ if d.2.2 then [d.1] else [] := by
          cases q : d.2.2 <;> simp [firstsD, List.filter_append, List.filter_cons, e, q]
        have h2 : lastsD n (E ++ [d]) = lastsD n E ++ if d.2.2 then [] else [d.1] := by
          cases q : d.2.2 <;> simp [lastsD, List.filter_append, List.filter_cons, e, q]
        rw [h1, h2]
        cases q : d.2.2 <;> simp
      · rw [if_neg e, hw n hln]
        have h1 : firstsD n (E ++ [d]) = firstsD n E := by simp [firstsD, List.filter_append, List.filter_cons, Ne.symm e]
        have h2 : lastsD n (E ++ [d]) = lastsD n E := by simp [lastsD, List.filter_append, List.filter_cons, Ne.symm e]
        rw [h1, h2]
/-! ### the way -/
theorem flat_key {α : Type} (f : Nat → List α) (key : α → Nat) (p : α → Bool) (h : ∀ n, ∀ a ∈ f n, key a = n) (k : Nat) : ∀ m, ((List.range m).flatMap f).filter (fun a => decide (key a = k) && p a) = if k < m then (f k).filter p else [] := by
  intro m
  induction m with
  | zero => simp
  | succ m ih =>
    rw [List.range_succ, List.flatMap_append, List.filter_append, ih]
    have e : (List.flatMap f [m]) = f m := by simp
    rw [e]
    by_cases h1 : k = m
    · subst h1
      rw [if_neg (by omega), if_pos (by omega), List.nil_append]
      exact List.filter_congr fun a ha => by rw [h k a ha]; simp
    · have : (f m).filter (fun a => decide (key a = k) && p a) = [] := List.filter_eq_nil_iff.mpr fun a ha => by
        rw [h m a ha]; simp; intro e; omega
      rw [this, List.append_nil]
      by_cases h2 : k < m
      · rw [if_pos h2, if_pos (by omega)]
      · rw [if_neg h2, if_neg (by omega)]
section
variable {ps : List (Option Int)}
theorem chosen_ok {ls gl : List (List Nat)} (n : Nat) (ho : (ls.getD n []).Nodup) : (chosen ps ls gl n).1 ≤ (chosen ps ls gl n).2 ∧ (chosen ps ls gl n).2 ≤ (gl.getD n []).length ∧ (kept ps ls gl n).Sublist (ls.getD n []) := by
  rcases chosen_or (ps := ps) ls gl n with ⟨_, e⟩ | h
  · unfold kept; rw [e]; simp [seg]
  · obtain ⟨h1, h2, h3⟩ := (hold_iff ho _).mp (best_price h).1
    exact ⟨by omega, h2, h3.sub⟩
theorem way_key (ls gl : List (List Nat)) (n : Nat) : ∀ d ∈ wayAt ps ls gl n, d.2.1 = n := by
  intro d hd
  unfold wayAt at hd
  rcases List.mem_append.mp hd with h | h
  · obtain ⟨b, _, rfl⟩ := List.mem_map.mp h; rfl
  · obtain ⟨b, _, rfl⟩ := List.mem_map.mp h; rfl
theorem way_firsts (ls gl : List (List Nat)) {n : Nat} (hn : n < gl.length) : firstsD n (wayOf ps ls gl) = ((gl.getD n []).take (chosen ps ls gl n).1).reverse := by
  unfold firstsD wayOf
  rw [flat_key (wayAt ps ls gl) (fun d => d.2.1) (fun d => d.2.2) (way_key ls gl), if_pos hn]
  unfold wayAt
  rw [List.filter_append, List.map_append]
  have h1 : (List.map (fun b => ((b, n, true) : Deed)) (List.take (chosen ps ls gl n).1 (gl.getD n [])).reverse).filter (fun d => d.2.2) = List.map (fun b => ((b, n, true) : Deed)) (List.take (chosen ps ls gl n).1 (gl.getD n [])).reverse := List.filter_eq_self.mpr fun d hd => by
    obtain ⟨b, _, rfl⟩ := List.mem_map.mp hd; rfl
  have h2 : (List.map (fun b => ((b, n, false) : Deed)) (List.drop (chosen ps ls gl n).2 (gl.getD n []))).filter (fun d => d.2.2) = [] := List.filter_eq_nil_iff.mpr fun d hd => by
    obtain ⟨b, _, rfl⟩ := List.mem_map.mp hd; simp
  rw [h1, h2, List.map_map]
  simp [Function.comp_def]
theorem way_lasts (ls gl : List (List Nat)) {n : Nat} (hn : n < gl.length) : lastsD n (wayOf ps ls gl) = (gl.getD n []).drop (chosen ps ls gl n).2 := by
  unfold lastsD wayOf
  rw [flat_key (wayAt ps ls gl) (fun d => d.2.1) (fun d => !d.2.2) (way_key ls gl), if_pos hn]
  unfold wayAt
  rw [List.filter_append, List.map_append]
  have h1 : (List.map (fun b => ((b, n, true) : Deed)) (List.take (chosen ps ls gl n).1 (gl.getD n [])).reverse).filter (fun d => !d.2.2) = [] := List.filter_eq_nil_iff.mpr fun d hd => by
    obtain ⟨b, _, rfl⟩ := List.mem_map.mp hd; simp
  have h2 : (List.map (fun b => ((b, n, false) : Deed)) (List.drop (chosen ps ls gl n).2 (gl.getD n []))).filter (fun d => !d.2.2) = List.map (fun b => ((b, n, false) : Deed)) (List.drop (chosen ps ls gl n).2 (gl.getD n [])) := List.filter_eq_self.mpr fun d hd => by
    obtain ⟨b, _, rfl⟩ := List.mem_map.mp hd; rfl
  rw [h1, h2, List.map_map]
  simp [Function.comp_def]
/-- books put and books that stay: all of the goal's -/
theorem way_perm (ls gl : List (List Nat)) (hs : ∀ n, (ls.getD n []).Nodup) : (booksD (wayOf ps ls gl) ++ (List.range gl.length).flatMap (kept ps ls gl)).Perm gl.flatten := by
  have key : ∀ m, m ≤ gl.length → (booksD ((List.range m).flatMap (wayAt ps ls gl)) ++ (List.range m).flatMap (kept ps ls gl)).Perm (gl.take m).flatten := by
    intro m
    induction m with
    | zero => intro _; simp [booksD]
    | succ m ih =>
      intro hm
      have ih := ih (by omega)
      have e1 : (List.range (m + 1)).flatMap (wayAt ps ls gl) = (List.range m).flatMap (wayAt ps ls gl) ++ wayAt ps ls gl m := by rw [List.range_succ, List.flatMap_append]; simp
      have e2 : (List.range (m + 1)).flatMap (kept ps ls gl) = (List.range m).flatMap (kept ps ls gl) ++ kept ps ls gl m := by rw [List.range_succ, List.flatMap_append]; simp
      have e3 : (gl.take (m + 1)).flatten = (gl.take m).flatten ++ gl.getD m [] := by
        rw [List.take_succ_eq_append_getElem (by omega), List.flatten_append, getD_lt (by omega)]; simp
      have e4 : booksD (wayAt ps ls gl m) = ((gl.getD m []).take (chosen ps ls gl m).1).reverse ++ (gl.getD m []).drop (chosen ps ls gl m).2 := by
        unfold booksD wayAt
        rw [List.map_append, List.map_map, List.map_map]
        simp [Function.comp_def]
      have e5 : booksD ((List.range m).flatMap (wayAt ps ls gl) ++ wayAt ps ls gl m) = booksD ((List.range m).flatMap (wayAt ps ls gl)) ++ booksD (wayAt ps ls gl m) := by unfold booksD; rw [List.map_append]
      rw [e1, e2, e3, e5]
      have h1 : (booksD (wayAt ps ls gl m) ++ kept ps ls gl m).Perm (gl.getD m []) := by
        rw [e4]
        have hc := chosen_ok (ps := ps) (gl := gl) m (hs m)
        conv => rhs; rw [seg_split (gl.getD m []) hc.1]
        rw [List.append_assoc]
        refine List.Perm.append (List.reverse_perm _) ?_
        exact List.perm_append_comm
      generalize booksD ((List.range m).flatMap (wayAt ps ls gl)) = A at *
      generalize (List.range m).flatMap (kept ps ls gl) = B at *
      generalize booksD (wayAt ps ls gl m) = A' at *
      generalize kept ps ls gl m = B' at *
      have : (A ++ A' ++ (B ++ B')).Perm ((A ++ B) ++ (A' ++ B')) := by
        rw [List.append_assoc, List.append_assoc]
        refine List.Perm.append_left A ?_
        rw [← List.append_assoc, ← List.append_assoc]
        exact List.Perm.append_right B' List.perm_append_comm
      exact this.trans (ih.append h1)
  have := key gl.length (Nat.le_refl _)
  rw [List.take_length] at this
  exact this
theorem sw_flat (w : Nat → Int) (f : Nat → List Nat) : ∀ l : List Nat, sw w (l.flatMap f) = (l.map fun n => sw w (f n)).sum
  | [] => rfl
  | a :: l => by rw [List.flatMap_cons, sw_app, sw_flat w f l]; simp
variable {ls gl : List (List Nat)} {k m : Nat}
theorem way_nodup (L : Lots ps.length k ls) (G : Lots ps.length m gl) : (booksD (wayOf ps ls gl) ++ (List.range gl.length).flatMap (kept ps ls gl)).Nodup := (way_perm ls gl fun n => L.nodupD n).nodup_iff.mpr G.nd
theorem way_cost (L : Lots ps.length k ls) (G : Lots ps.length m gl) : price ps (booksD (wayOf ps ls gl)) = costOf ps ls gl := by
  have h := sw_perm (w := pw ps) ((way_perm (ps := ps) ls gl fun n => L.nodupD n).trans G.perm)
  rw [sw_app, sw_flat] at h
  unfold costOf costTo
  rw [price_sw, price_sw, ← h]
  have : ((List.range gl.length).map fun n => sw (pw ps) (kept ps ls gl n)) = (List.range gl.length).map fun n => price ps (kept ps ls gl n) := rfl
  rw [this]; omega
theorem way_books (L : Lots ps.length k ls) (G : Lots ps.length m gl) {x : Nat} (h : x ∈ booksD (wayOf ps ls gl)) : x < ps.length := by
  have := ((way_perm (ps := ps) ls gl fun n => L.nodupD n).trans G.perm).mem_iff.mp (List.mem_append_left _ h)
  simpa using this
theorem way_lot (d : Deed) (h : d ∈ wayOf ps ls gl) : d.2.1 < gl.length := by
  obtain ⟨n, hn, hd⟩ := List.mem_flatMap.mp h
  rw [way_key ls gl n d hd]; exact List.mem_range.mp hn
theorem way_free (L : Lots ps.length k ls) (G : Lots ps.length m gl) (h : Open ps ls gl) {x : Nat} (hx : x ∈ booksD (wayOf ps ls gl)) : pr ps x ≠ none := by
  intro hp
  have hlt := way_books L G hx
  obtain ⟨l, hl, hxl⟩ := G.there hlt
  obtain ⟨n, hn, rfl⟩ := List.mem_iff_getElem.mp hl
  have hxn : x ∈ gl.getD n [] := by rw [getD_lt hn]; exact hxl
  have hf : fixedIn ps (gl.getD n []) ≠ [] := fun z => by
    have : x ∈ fixedIn ps (gl.getD n []) := List.mem_filter.mpr ⟨hxn, decide_eq_true hp⟩
    rw [z] at this; cases this
  have h1 := h.turn n hn hf
  rcases chosen_or (ps := ps) ls gl n with ⟨e, _⟩ | hc
  · exact h1 e
  · obtain ⟨_, _, h3⟩ := (hold_iff (L.nodupD n) _).mp (best_price hc).1
    have h4 : x ∈ kept ps ls gl n := h3.fix x hxn hp
    have nd := way_nodup (ps := ps) L G
    obtain ⟨_, _, dj⟩ := List.nodup_append.mp nd
    exact dj x hx x (List.mem_flatMap.mpr ⟨n, List.mem_range.mpr hn, h4⟩) rfl
theorem way_leads (L : Lots ps.length k ls) (G : Lots ps.length m gl) (e : gl.length = ls.length) : runD ls (wayOf ps ls gl) = gl := by
  have nd := way_nodup (ps := ps) L G
  obtain ⟨n1, n2, dj⟩ := List.nodup_append.mp nd
  have hlen : (runD ls (wayOf ps ls gl)).length = gl.length := by rw [runD_len, e]
  refine List.ext_getElem hlen fun n h1 h2 => ?_
  have h3 := runD_at ls _ (wayOf ps ls gl) rfl n1 (fun d hd => by rw [← e]; exact way_lot d hd) n (by omega)
  rw [getD_lt h1] at h3
  rw [h3, way_firsts ls gl h2, way_lasts ls gl h2, List.reverse_reverse]
  have hk := chosen_ok (ps := ps) (gl := gl) n (L.nodupD n)
  have hmid : (ls.getD n []).filter (fun x => !decide (x ∈ booksD (wayOf ps ls gl))) = kept ps ls gl n := by
    rw [← sub_filter (L.nodupD n) hk.2.2]
    refine List.filter_congr fun x hx => ?_
    have hxN := ((L.at (by omega) x).mp hx)
    have hmem : x ∈ booksD (wayOf ps ls gl) ++ (List.range gl.length).flatMap (kept ps ls gl) := ((way_perm (ps := ps) ls gl fun n => L.nodupD n).trans G.perm).mem_iff.mpr (List.mem_range.mpr hxN.1)
    by_cases hxk : x ∈ kept ps ls gl n
    · have : x ∉ booksD (wayOf ps ls gl) := fun z => dj x z x (List.mem_flatMap.mpr ⟨n, List.mem_range.mpr h2, hxk⟩) rfl
      simp [hxk, this]
    · have : x ∈ booksD (wayOf ps ls gl) := by
        rcases List.mem_append.mp hmem with z | z
        · exact z
        · obtain ⟨j, hj, hxj⟩ := List.mem_flatMap.mp z
          have hj := List.mem_range.mp hj
          have h5 := (chosen_ok (ps := ps) (gl := gl) j (L.nodupD j)).2.2.subset hxj
          have h6 := (L.at (by omega) x).mp h5
          have : j = n := by rw [← h6.2, hxN.2]
          subst this; exact absurd hxj hxk
      simp [hxk, this]
  rw [hmid, ← getD_lt (d := []) h2]
  rw [List.append_assoc]
  exact (seg_split (gl.getD n []) hk.1).symm
/-! ### deeds cost no less -/
structure OkD (ps : List (Option Int)) (k : Nat) (d : Deed) : Prop where
  b : d.1 < ps.length
  l : d.2.1 < k
  p : pr ps d.1 ≠ none
theorem runD_lots (L : Lots ps.length k ls) : ∀ (D : List Deed), (∀ d ∈ D, OkD ps ls.length d) → Lots ps.length k (runD ls D) := by
  intro D
  induction D generalizing ls with
  | nil => intro _; exact L
  | cons d D ih =>
    intro h
    have hd := h d (by simp)
    have : runD ls (d :: D) = runD (placedL ls d.1 d.2.1 d.2.2) D := rfl
    rw [this]
    exact ih (L.placed hd.b hd.l) fun x hx => by rw [placed_len]; exact h x (List.mem_cons_of_mem _ hx)
theorem runD_open (L : Lots ps.length k ls) : ∀ (D : List Deed), (∀ d ∈ D, OkD ps ls.length d) → Open ps ls (runD ls D) := by
  intro D
  induction D generalizing ls with
  | nil => intro _; exact Open.refl L
  | cons d D ih =>
    intro h
    have hd := h d (by simp)
    have P := L.placed (fr := d.2.2) hd.b hd.l
    have hl := placed_len ls d.1 d.2.1 d.2.2
    have h2 : ∀ x ∈ D, OkD ps (placedL ls d.1 d.2.1 d.2.2).length x := fun x hx => by rw [hl]; exact h x (List.mem_cons_of_mem _ hx)
    exact Open.trans L P (runD_lots P D h2) hl (by show (runD (placedL ls d.1 d.2.1 d.2.2) D).length = _; rw [runD_len]) (Open.deed L hd.b hd.l hd.p) (ih P h2)
theorem runD_cost {w : Nat → Int} (hw : ∀ b, 0 ≤ w b) (L : Lots ps.length k ls) : ∀ (D : List Deed), (∀ d ∈ D, OkD ps ls.length d) → CS ps w ls (runD ls D) ≤ sw w (booksD D) := by
  intro D
  induction D generalizing ls with
  | nil => intro _; rw [show runD ls [] = ls from rfl, CS_self hw L]; simp [booksD, sw]
  | cons d D ih =>
    intro h
    have hd := h d (by simp)
    have P := L.placed (fr := d.2.2) hd.b hd.l
    have hl := placed_len ls d.1 d.2.1 d.2.2
    have h2 : ∀ x ∈ D, OkD ps (placedL ls d.1 d.2.1 d.2.2).length x := fun x hx => by rw [hl]; exact h x (List.mem_cons_of_mem _ hx)
    have h3 := CS_tri hw L P (runD_lots P D h2) hl (by rw [runD_len]) (runD_open P D h2)
    have h4 := CS_deed hw (fr := d.2.2) L hd.b hd.l hd.p
    have h5 := ih P h2
    have : booksD (d :: D) = d.1 :: booksD D := rfl
    rw [this, sw_cons]
    have : runD ls (d :: D) = runD (placedL ls d.1 d.2.1 d.2.2) D := rfl
    rw [this]; omega
theorem way_ok (L : Lots ps.length k ls) (G : Lots ps.length m gl) (e : gl.length = ls.length) (h : Open ps ls gl) : ∀ d ∈ wayOf ps ls gl, OkD ps ls.length d := fun d hd =>
  have hb : d.1 ∈ booksD (wayOf ps ls gl) := List.mem_map.mpr ⟨d, hd, rfl⟩
  ⟨way_books L G hb, by rw [← e]; exact way_lot d hd, way_free L G h hb⟩
end
end Wk

/-! PD: ways are some; a shelf as its own goal. -/
namespace Wk
open Sm
theorem ch_pos : ∀ n k, k ≤ n → 0 < ch n k
  | 0, k, h => by have : k = 0 := by omega
                  subst this; rw [ch_zero]; omega
  | n + 1, 0, _ => by rw [ch_zero]; omega
  | n + 1, k + 1, h => by
    have := ch_pos n k (by omega)
    show 0 < ch n k + ch n (k + 1); omega
theorem blend_pos (a b : Nat) : 0 < blend a b := ch_pos _ _ (by omega)
theorem sum_pos {l : List Int} (h : ∀ x ∈ l, 0 < x) (ne : l ≠ []) : 0 < l.sum := by
  induction l with
  | nil => exact absurd rfl ne
  | cons a l ih =>
    rw [List.sum_cons]
    have h1 := h a (by simp)
    by_cases e : l = []
    · subst e; simpa using h1
    · have := ih (fun x hx => h x (List.mem_cons_of_mem _ hx)) e; omega
theorem W_pos : ∀ (rs : List (List (Nat × Nat))) (m : Nat), (∀ r ∈ rs, r ≠ []) → 0 < W rs m
  | [], m, _ => by simp [W]
  | r :: rs, m, h => by
    show 0 < (r.map fun q => (blend m (q.1 + q.2) : Int) * (blend q.1 q.2 : Int) * W rs (m + (q.1 + q.2))).sum
    refine sum_pos (fun x hx => ?_) (by have := h r (by simp); simpa using this)
    obtain ⟨q, _, rfl⟩ := List.mem_map.mp hx
    have h1 := blend_pos m (q.1 + q.2)
    have h2 := blend_pos q.1 q.2
    have h3 := W_pos rs (m + (q.1 + q.2)) fun r hr => h r (List.mem_cons_of_mem _ hr)
    exact Int.mul_pos (Int.mul_pos (by omega) (by omega)) h3
section
variable {ps : List (Option Int)} {ls gl : List (List Nat)} {k m : Nat}
theorem ways_pos : 0 < waysOf ps ls gl := by
  refine W_pos _ _ fun r hr => ?_
  obtain ⟨n, _, rfl⟩ := List.mem_map.mp hr
  unfold sides sidesOf
  split
  · simp
  · rename_i h; simpa using h
theorem fw_len {l : List Nat} (h : ∀ x ∈ l, pr ps x ≠ none) : sw (fw ps) l = (l.length : Int) := by
  rw [fw_sw]
  have : fixedIn ps l = [] := filter_none fun x hx => by simp [h x hx]
  rw [this]; simp
theorem few_way (L : Lots ps.length k ls) (G : Lots ps.length m gl) (e : gl.length = ls.length) (h : Open ps ls gl) : fewOf ps ls gl ≤ ((wayOf ps ls gl).length : Int) := by
  rw [few_CS L G]
  have h1 := runD_cost (w := fw ps) fw_nonneg L (wayOf ps ls gl) (way_ok L G e h)
  rw [way_leads L G e] at h1
  rw [fw_len fun x hx => way_free L G h hx] at h1
  simpa [booksD] using h1
/-! ### a shelf as its own goal -/
theorem run_snd (old : List Nat) (f : Nat) : ∀ (r : List Nat) (past : Nat) (a : Int), (run old f r past a).Nodup
  | [], _, _ => by simp [run]
  | b :: r, past, a => by
    by_cases h : a < pos old b
    · rw [show run old f (b :: r) past a = (f, past + 1) :: run old f r (past + 1) (pos old b) from if_pos h]
      refine List.nodup_cons.mpr ⟨fun z => ?_, run_snd old f r _ _⟩
      have := ((mem_run_iff old f _ _ _ _).mp z).2.1
      simp at this
    · rw [show run old f (b :: r) past a = [] from if_neg h]; simp
theorem standing_nodup (old lot : List Nat) : (standing old lot).Nodup := by
  unfold standing
  rw [List.flatMap_def]
  refine List.pairwise_flatten.mpr ⟨fun l hl => ?_, ?_⟩
  · obtain ⟨f, _, rfl⟩ := List.mem_map.mp hl; exact run_snd _ _ _ _ _
  · rw [List.pairwise_map]
    refine List.Pairwise.imp_of_mem ?_ (List.nodup_range (n := lot.length))
    intro a b _ _ hab x hx y hy e
    have h1 := ((mem_run_iff old a _ _ _ _).mp hx).1
    have h2 := ((mem_run_iff old b _ _ _ _).mp hy).1
    exact hab (by rw [← h1, ← h2, e])
theorem nodup_one {α : Type} {l : List α} (hn : l.Nodup) {a : α} (ha : a ∈ l) (h : ∀ x ∈ l, x = a) : l = [a] := by
  cases l with
  | nil => cases ha
  | cons b l =>
    have hb := h b (by simp)
    subst hb
    cases l with
    | nil => rfl
    | cons c l =>
      have hc := h c (by simp)
      subst hc
      simp at hn
theorem best_self (hpr : ∀ i, some i ∈ ps → 1 ≤ i ∧ i ≤ 99) {l : List Nat} (hb : ∀ x ∈ l, x < ps.length) (hn : l.Nodup) (ne : l ≠ []) : best ps l l = [(0, l.length)] := by
  have hw := pw_nonneg hpr
  have hq : ∀ q ∈ best ps l l, q = (0, l.length) := fun q hq => by
    obtain ⟨h1, h2⟩ := best_price hq
    obtain ⟨h3, h4, h5⟩ := (hold_iff hn q).mp h1
    rw [mk_self hw hn, price_sw] at h2
    have h6 := sw_filter (pw ps) (fun x => decide (x ∈ seg l q.1 q.2)) l
    rw [sub_filter hn h5.inf.sublist] at h6
    have h7 : ∀ x ∈ l, x ∈ seg l q.1 q.2 := fun x hx => Classical.byContradiction fun z => by
      have hm : x ∈ l.filter fun x => !decide (x ∈ seg l q.1 q.2) := List.mem_filter.mpr ⟨hx, by simp [z]⟩
      have hfx : pr ps x ≠ none := fun e => z (h5.fix x hx e)
      have hpos : 1 ≤ pw ps x := by
        unfold pw
        cases e : pr ps x with
        | none => exact absurd e hfx
        | some i =>
          have hxl := hb x hx
          have : ps[x]? = some (some i) := by
            unfold pr at e
            rw [List.getElem?_eq_getElem hxl] at e ⊢
            simpa using e
          have := hpr i (List.mem_of_getElem? this)
          simp; omega
      obtain ⟨l1, l2, e⟩ := List.append_of_mem hm
      rw [e, sw_app, sw_cons] at h6
      have h8 := sw_nonneg hw l1
      have h9 := sw_nonneg hw l2
      omega
    have h8 : l.length ≤ (seg l q.1 q.2).length := by
      have := hn.length_le_of_subset h7
      exact this
    rw [seg_length h4] at h8
    obtain ⟨q1, q2⟩ := q
    simp at h3 h4 h8 ⊢; omega
  have h0 : best ps l l ≠ [] := best_ne fun z => (hold_nil hn).mp z l (Hs.self ne)
  have nd : (best ps l l).Nodup := (List.filter_sublist.trans List.filter_sublist : (best ps l l).Sublist (standing l l)).nodup (standing_nodup l l)
  cases q : best ps l l with
  | nil => exact absurd q h0
  | cons x r =>
    rw [← q]
    have hx := hq x (by rw [q]; simp)
    exact nodup_one nd (by rw [← hx, q]; simp) hq
theorem chosen_self (hpr : ∀ i, some i ∈ ps → 1 ≤ i ∧ i ≤ 99) (L : Lots ps.length k ls) (n : Nat) (hn : n < ls.length) : chosen ps ls ls n = (0, (ls.getD n []).length) := by
  unfold chosen
  by_cases h : ls.getD n [] = []
  · rw [h]
    have : best ps [] [] = [] := rfl
    rw [this]; rfl
  · rw [best_self hpr (fun x hx => ((L.at hn x).mp hx).1) (L.nodupD n) h]; rfl
theorem way_self (hpr : ∀ i, some i ∈ ps → 1 ≤ i ∧ i ≤ 99) (L : Lots ps.length k ls) : wayOf ps ls ls = [] := by
  unfold wayOf
  rw [List.flatMap_eq_nil_iff]
  intro n hn
  unfold wayAt
  rw [chosen_self hpr L n (List.mem_range.mp hn)]
  simp
theorem cost_self (hpr : ∀ i, some i ∈ ps → 1 ≤ i ∧ i ≤ 99) (L : Lots ps.length k ls) : costOf ps ls ls = 0 := by
  rw [cost_CS]; exact CS_self (pw_nonneg hpr) L
theorem W_ones : ∀ (rs : List (List (Nat × Nat))), (∀ r ∈ rs, r = [(0, 0)]) → W rs 0 = 1
  | [], _ => rfl
  | r :: rs, h => by
    have h1 := h r (by simp)
    subst h1
    have h2 := W_ones rs fun r hr => h r (List.mem_cons_of_mem _ hr)
    show ([(0, 0)].map fun q : Nat × Nat => (blend 0 (q.1 + q.2) : Int) * (blend q.1 q.2 : Int) * W rs (0 + (q.1 + q.2))).sum = 1
    simp [h2, blend, ch_zero]
theorem ways_self (hpr : ∀ i, some i ∈ ps → 1 ≤ i ∧ i ≤ 99) (L : Lots ps.length k ls) : waysOf ps ls ls = 1 := by
  unfold waysOf
  refine W_ones _ fun r hr => ?_
  obtain ⟨n, hn, rfl⟩ := List.mem_map.mp hr
  have hn := List.mem_range.mp hn
  unfold sides sidesOf
  by_cases h : ls.getD n [] = []
  · rw [h]; rfl
  · rw [best_self hpr (fun x hx => ((L.at hn x).mp hx).1) (L.nodupD n) h]; simp
end
end Wk

/-! MDn: deeds done. -/
namespace Wk
noncomputable section
open PySem PySem.Spec Sm Mp
variable {C : Str → Addr}
theorem kit_ss : L2.kitB "str" "str" = some true := by decide +kernel
theorem isi_str {x : Str} : gIsi "str" [.val (.str x), .raw (.ty "str")] = some (.val (.bool true)) := by
  show (match ("str" == "str" : Bool), (M.view (.val (.str x))).bind tyD with
    | true, some t => (L2.kitB t "str").map fun b => M.val (.bool b)
    | _, _ => none) = _
  show (L2.kitB "str" "str").map (fun b => M.val (.bool b)) = _
  rw [kit_ss]; rfl
theorem in_ends (fr : Bool) : gInU true [.val (eEnd fr), .val (.tuple [.str "first", .str "last"])] = some (.val (.bool false)) := by
  cases fr
  · have : gIn true [.val (eEnd false), .val (.tuple [.str "first", .str "last"])] = some (.val (.bool false)) := by rfl
    unfold gInU Sm.orM; rw [this]
  · have : gIn true [.val (eEnd true), .val (.tuple [.str "first", .str "last"])] = some (.val (.bool false)) := by rfl
    unfold gInU Sm.orM; rw [this]
theorem ix_deed (a b c : PyData) : gIx [.val (.tuple [a, b, c]), .val (.int 0)] = some (.val a) ∧ gIx [.val (.tuple [a, b, c]), .val (.int 1)] = some (.val b) ∧ gIx [.val (.tuple [a, b, c]), .val (.int 2)] = some (.val c) := ⟨rfl, rfl, rfl⟩
abbrev eDd (d : Deed) : PyData := .tuple [nI d.1, nI d.2.1, eEnd d.2.2]
theorem e_fault_of (ps : List (Option Int)) (ls : List (List Nat)) (d : Deed) (h : OkD ps ls.length d) : d_fault_of C [.val (eSh ps ls), .val (eDd d)] = .ok (.val .none) [.val (eSh ps ls), .val (eDd d)] := by
  obtain ⟨b, k, fr⟩ := d
  have h1 := h.b
  have h2 := h.l
  have h3 := h.p
  simp only at h1 h2 h3
  have hx := ix_sh0 ps ls
  have hy := ix_sh1 ps ls
  have hp := ix_ps ps h1
  have hl1 : gLen [.val (ePs ps)] = some (.val (nI ps.length)) := by rw [len_tup]; simp
  have hl2 : gLen [.val (eLots ls)] = some (.val (nI ls.length)) := by rw [len_tup]; simp
  have hl3 : gLen [.val (eDd (b, k, fr))] = some (.val (.int 3)) := rfl
  obtain ⟨i0, i1, i2⟩ := ix_deed (nI b) (nI k) (eEnd fr)
  have hin := in_ends fr
  have his : gIsi "str" [.val (eEnd fr), .raw (.ty "str")] = some (.val (.bool true)) := isi_str
  unfold d_fault_of b_fault_of
  have hE : eDd (b, k, fr) = .tuple [nI b, nI k, eEnd fr] := rfl
  rw [hE] at hl3 ⊢
  have hit : gIsi "tuple" [.val (.tuple [nI b, nI k, eEnd fr]), .raw (.ty "tuple")] = some (.val (.bool true)) := isi_tup
  generalize hF : eEnd fr = F at *
  generalize hDD : PyData.tuple [nI b, nI k, F] = DD at *
  generalize hS : eSh ps ls = S at *
  generalize hP : ePs ps = P at *
  generalize hL : eLots ls = L at *
  have e1 : (b : Int) ≤ (ps.length : Int) - 1 := by omega
  have e2 : (k : Int) ≤ (ls.length : Int) - 1 := by omega
  cases q : pr ps b with
  | none => exact absurd q h3
  | some i =>
    rw [q] at hp
    simp [def0, cRet, cAndV, cNotV, cOp, cC, cV, cChain, cOrV, cOrT, cCall, cIfS, cNx, cBad, cSeq, cSet, cB, cAnd, cOr, cNot, cIf, cFz, cExpr, cMov, cYes, RE.bind, RE.toS, RS.then, evA, evP, Sm.Env.get, Sm.Env.put, Sm.Env.asg, getS, getM, startS, isCopy, lendC, backC, M.isHole, M.fz, M.view, Slot.cont, gN, gT, gsC, gsN, Sm.Env.wipe, Sm.Env.rest, wipeS, restS, cSl, asI, isLst, gApp, cMut, cPar, cPar3, cAsgG, LcOk, ForOk, RetOk, LcR, cLc, iSeq, itemsM, seqOf, gTupM, gLstM, valsOf, isi_int, isi_bool, isi_tup, isi_lst, len_tup, len_list, len_lst, g_sub, g_neg, g_add, g_lt, g_gt, g_le, g_ge, eq_int, ne_int, isN_int, isN_none, notN_int, notN_none, isN_tup, notN_tup, truD, hx, hy, hp, hl1, hl2, hl3, i0, i1, i2, hin, his, hit, e_is_number, e1, e2]
theorem e_need_list (ds : List PyData) : d_need_list C [.val (.list ds)] = .ok (.val .none) [.val (.list ds)] := by
  unfold d_need_list b_need_list
  simp [def0, cRet, cAndV, cNotV, cOp, cC, cV, cChain, cOrV, cOrT, cCall, cIfS, cNx, cBad, cSeq, cSet, cB, cAnd, cOr, cNot, cIf, cFz, cExpr, cMov, cYes, RE.bind, RE.toS, RS.then, evA, evP, Sm.Env.get, Sm.Env.put, Sm.Env.asg, getS, getM, startS, isCopy, lendC, backC, M.isHole, M.fz, M.view, Slot.cont, gN, gT, gsC, gsN, Sm.Env.wipe, Sm.Env.rest, wipeS, restS, cSl, asI, isLst, gApp, cMut, cPar, cPar3, cAsgG, LcOk, ForOk, RetOk, LcR, cLc, iSeq, itemsM, seqOf, gTupM, gLstM, valsOf, isi_int, isi_bool, isi_tup, isi_lst, len_tup, len_list, len_lst, g_sub, g_neg, g_add, g_lt, g_gt, g_le, g_ge, eq_int, ne_int, isN_int, isN_none, notN_int, notN_none, isN_tup, notN_tup, truD]
theorem deeds_zip (D : List Deed) : enumD 0 (D.map eDd) = (List.range D.length).map fun i => .tuple [nI i, eDd (D.getD i (0, 0, false))] := by
  rw [enum_map, List.range_eq_range']
  refine List.ext_getElem (by simp) fun i h1 h2 => ?_
  simp at h1
  simp [h1]
theorem e_behind (ps : List (Option Int)) (ls : List (List Nat)) (D : List Deed) (hk : ls.length ≤ 5) (hp : ps.length ≤ 12) (L : Lots ps.length 5 ls) (h : ∀ d ∈ D, OkD ps ls.length d) (hz : D.length ≤ 100000) : d_behind C [.val (eSh ps ls), .val (.list (D.map eDd))] = .ok (.val (.tuple [eLots (runD ls D), .int (price ps (booksD D))])) [.val (eSh ps ls), .val (.list (D.map eDd))] := by
  have hx := ix_sh0 ps ls
  have hy := ix_sh1 ps ls
  unfold d_behind b_behind
  have hS : ∀ d ∈ D, d_fault_of C [.val (eSh ps ls), .val (eDd d)] = .ok (.val .none) [.val (eSh ps ls), .val (eDd d)] := fun d hd => e_fault_of ps ls d (h d hd)
  have hP : ∀ d ∈ D, gIx [.val (ePs ps), .val (nI d.1)] = some (.val (.int ((pr ps d.1).getD 0))) := fun d hd => by
    rw [ix_ps ps (h d hd).b]
    cases q : pr ps d.1 with
    | none => exact absurd q (h d hd).p
    | some i => rfl
  generalize hSS : eSh ps ls = S at *
  generalize hPP : ePs ps = P at *
  simp [def0, cRet, cAndV, cNotV, cOp, cC, cV, cChain, cOrV, cOrT, cCall, cIfS, cNx, cBad, cSeq, cSet, cB, cAnd, cOr, cNot, cIf, cFz, cExpr, cMov, cYes, RE.bind, RE.toS, RS.then, evA, evP, Sm.Env.get, Sm.Env.put, Sm.Env.asg, getS, getM, startS, isCopy, lendC, backC, M.isHole, M.fz, M.view, Slot.cont, gN, gT, gsC, gsN, Sm.Env.wipe, Sm.Env.rest, wipeS, restS, cSl, asI, isLst, gApp, cMut, cPar, cPar3, cAsgG, LcOk, ForOk, RetOk, LcR, cLc, iSeq, itemsM, seqOf, gTupM, gLstM, valsOf, isi_int, isi_bool, isi_tup, isi_lst, len_tup, len_list, len_lst, g_sub, g_neg, g_add, g_lt, g_gt, g_le, g_ge, eq_int, ne_int, isN_int, isN_none, notN_int, notN_none, isN_tup, notN_tup, truD, hy, cFor]
  rw [deeds_zip]
  generalize hF : forD _ _ _ _ = F
  obtain ⟨e', rfl, j4, j5, j6, rfl⟩ := for_at hF (fun i e => ∃ (j4 j5 j6 : Sm.Slot), e = ⟨[.own (vv S), .own (vv (.list (D.map eDd))), .own (vv (eLots (runD ls (D.take i)))), .own (vv (.int (price ps (booksD (D.take i))))), j4, j5, j6], [vv S, vv (.list (D.map eDd))]⟩)
    ⟨_, _, _, rfl⟩ (fun i hi e ⟨j4, j5, j6, he⟩ => by
      subst he
      have hi : i < D.length := by simpa using hi
      have hd : D[i] ∈ D := List.getElem_mem hi
      have hD : D.getD i (0, 0, false) = D[i] := getD_lt hi
      have ht : D.take (i + 1) = D.take i ++ [D[i]] := List.take_succ_eq_append_getElem hi
      have hrun : runD ls (D.take (i + 1)) = placedL (runD ls (D.take i)) D[i].1 D[i].2.1 D[i].2.2 := by rw [ht, runD_snoc]
      have hb : price ps (booksD (D.take (i + 1))) = price ps (booksD (D.take i)) + (pr ps D[i].1).getD 0 := by
        rw [ht, price_sw, price_sw]
        have : booksD (D.take i ++ [D[i]]) = booksD (D.take i) ++ [D[i].1] := by unfold booksD; rw [List.map_append]; rfl
        rw [this, sw_app, sw_cons, sw_nil]; simp [pw]
      have hLr := runD_lots L (D.take i) fun d hd => h d (List.mem_of_mem_take hd)
      have hlen : (runD ls (D.take i)).length = ls.length := runD_len _ _
      have hpl : d_placed C [.val (eLots (runD ls (D.take i))), .val (eDd D[i])] = .ok (.val (eLots (placedL (runD ls (D.take i)) D[i].1 D[i].2.1 D[i].2.2))) [.val (eLots (runD ls (D.take i))), .val (eDd D[i])] := e_placed (C := C) (runD ls (D.take i)) D[i].1 D[i].2.1 D[i].2.2 (by rw [hlen]; exact (h _ hd).l) (by omega) (fun l hl => by have := hLr.len hl; omega)
      rw [hrun, hb]
      have h1 := hS _ hd
      have h2 := hP _ hd
      have i0 : gIx [.val (eDd D[i]), .val (.int 0)] = some (.val (nI D[i].1)) := rfl
      generalize placedL (runD ls (D.take i)) D[i].1 D[i].2.1 D[i].2.2 = g2 at *
      generalize runD ls (D.take i) = g1 at *
      generalize (pr ps D[i].1).getD 0 = c at *
      generalize nI D[i].1 = bb at *
      rw [List.getElem_range, hD]
      generalize eDd D[i] = dd at *
      simp [def0, cRet, cAndV, cNotV, cOp, cC, cV, cChain, cOrV, cOrT, cCall, cIfS, cNx, cBad, cSeq, cSet, cB, cAnd, cOr, cNot, cIf, cFz, cExpr, cMov, cYes, RE.bind, RE.toS, RS.then, evA, evP, Sm.Env.get, Sm.Env.put, Sm.Env.asg, getS, getM, startS, isCopy, lendC, backC, M.isHole, M.fz, M.view, Slot.cont, gN, gT, gsC, gsN, Sm.Env.wipe, Sm.Env.rest, wipeS, restS, cSl, asI, isLst, gApp, cMut, cPar, cPar3, cAsgG, LcOk, ForOk, RetOk, LcR, cLc, iSeq, itemsM, seqOf, gTupM, gLstM, valsOf, isi_int, isi_bool, isi_tup, isi_lst, len_tup, len_list, len_lst, g_sub, g_neg, g_add, g_lt, g_gt, g_le, g_ge, eq_int, ne_int, isN_int, isN_none, notN_int, notN_none, isN_tup, notN_tup, truD, h1, h2, i0, hpl, hx, cAug])
  rw [List.length_range, List.take_length]
  simp [def0, cRet, cAndV, cNotV, cOp, cC, cV, cChain, cOrV, cOrT, cCall, cIfS, cNx, cBad, cSeq, cSet, cB, cAnd, cOr, cNot, cIf, cFz, cExpr, cMov, cYes, RE.bind, RE.toS, RS.then, evA, evP, Sm.Env.get, Sm.Env.put, Sm.Env.asg, getS, getM, startS, isCopy, lendC, backC, M.isHole, M.fz, M.view, Slot.cont, gN, gT, gsC, gsN, Sm.Env.wipe, Sm.Env.rest, wipeS, restS, cSl, asI, isLst, gApp, cMut, cPar, cPar3, cAsgG, LcOk, ForOk, RetOk, LcR, cLc, iSeq, itemsM, seqOf, gTupM, gLstM, valsOf, isi_int, isi_bool, isi_tup, isi_lst, len_tup, len_list, len_lst, g_sub, g_neg, g_add, g_lt, g_gt, g_le, g_ge, eq_int, ne_int, isN_int, isN_none, notN_int, notN_none, isN_tup, notN_tup, truD]
theorem e_done {ps : List (Option Int)} {ls gl : List (List Nat)} (G : Good ps ls gl) (D : List Deed) (h : ∀ d ∈ D, OkD ps ls.length d) (hz : D.length ≤ 100000) : d_done C [.val (eSh ps ls), .val (.list (D.map eDd))] = .ok (.val (.tuple [eLots (runD ls D), .int (price ps (booksD D))])) [.val (eSh ps ls), .val (.list (D.map eDd))] := by
  have h1 := e_need_shelf (C := C) G
  have h2 := e_need_list (C := C) (D.map eDd)
  have h3 := e_behind (C := C) ps ls D G.l.le G.pl G.l h hz
  unfold d_done b_done
  generalize eSh ps ls = S at *
  generalize D.map eDd = Ds at *
  generalize eLots (runD ls D) = R at *
  simp [def0, cRet, cAndV, cNotV, cOp, cC, cV, cChain, cOrV, cOrT, cCall, cIfS, cNx, cBad, cSeq, cSet, cB, cAnd, cOr, cNot, cIf, cFz, cExpr, cMov, cYes, RE.bind, RE.toS, RS.then, evA, evP, Sm.Env.get, Sm.Env.put, Sm.Env.asg, getS, getM, startS, isCopy, lendC, backC, M.isHole, M.fz, M.view, Slot.cont, gN, gT, gsC, gsN, Sm.Env.wipe, Sm.Env.rest, wipeS, restS, cSl, asI, isLst, gApp, cMut, cPar, cPar3, cAsgG, LcOk, ForOk, RetOk, LcR, cLc, iSeq, itemsM, seqOf, gTupM, gLstM, valsOf, isi_int, isi_bool, isi_tup, isi_lst, len_tup, len_list, len_lst, g_sub, g_neg, g_add, g_lt, g_gt, g_le, g_ge, eq_int, ne_int, isN_int, isN_none, notN_int, notN_none, isN_tup, notN_tup, truD, h1, h2, h3]
end
end Wk

/-! M51: k05: the way, owned; judged. -/
namespace Wk
noncomputable section
open PySem PySem.Spec Sm Mp
variable {C : Str → Addr}
theorem e_wayO {ps ls gl} (G : Good ps ls gl) : d_Task_wayO C [task C ps ls gl] = .ok (.lst ((wayOf ps ls gl).map eDeed)) [task C ps ls gl] := by
  have hp := G.pl
  unfold d_Task_wayO b_Task_wayO
  simp [def0, cRet, cAndV, cNotV, cOp, cC, cV, cChain, cOrV, cOrT, cCall, cIfS, cNx, cBad, cSeq, cSet, cB, cAnd, cOr, cNot, cIf, cFz, cExpr, cMov, cYes, RE.bind, RE.toS, RS.then, evA, evP, Sm.Env.get, Sm.Env.put, Sm.Env.asg, getS, getM, startS, isCopy, lendC, backC, M.isHole, M.fz, M.view, Slot.cont, gN, gT, gsC, gsN, Sm.Env.wipe, Sm.Env.rest, wipeS, restS, cSl, asI, isLst, gApp, cMut, cPar, cPar3, cAsgG, LcOk, ForOk, RetOk, LcR, cLc, iSeq, itemsM, seqOf, gTupM, gLstM, valsOf, isi_int, isi_bool, isi_tup, isi_lst, len_tup, len_list, len_lst, g_sub, g_neg, g_add, g_lt, g_gt, g_le, g_ge, eq_int, ne_int, isN_int, isN_none, notN_int, notN_none, isN_tup, notN_tup, truD, cFld, cFor, f_wanted, enum_map, gl_zip, Function.comp_def]
  generalize hF : forD _ _ _ _ = F
  obtain ⟨e', rfl, j2, j3, j4, j5, j6, rfl⟩ := for_at hF (fun i e => ∃ j2 j3 j4 j5 j6 : Sm.Slot, e = ⟨[.bor 0, .own (.lst (((List.range i).flatMap (wayAt ps ls gl)).map eDeed)), j2, j3, j4, j5, j6], [task C ps ls gl]⟩) ⟨.own .hole, .own .hole, .own .hole, .own .hole, .own .hole, by simp⟩ (fun i hi e ⟨j2, j3, j4, j5, j6, he⟩ => by
    subst he
    have hi' : i < gl.length := by simpa using hi
    have hr : (List.range gl.length)[i] = i := by simp
    rw [hr]
    have hc := e_chosen (C := C) (ps := ps) (ls := ls) hi'
    have hle := chosen_le (ps := ps) (ls := ls) (gl := gl) i
    have hg : gl[i]?.getD [] = gl.getD i [] := by simp
    have hln : (gl.getD i []).length ≤ 12 := by
      rw [getD_lt hi']
      have := G.g.len (List.getElem_mem hi'); omega
    rw [hg, List.range_succ, List.flatMap_append, List.flatMap_singleton]
    have hw : wayAt ps ls gl i = (((gl.getD i []).take (chosen ps ls gl i).1).reverse.map fun b => (b, i, true)) ++ ((gl.getD i []).drop (chosen ps ls gl i).2).map fun b => (b, i, false) := rfl
    rw [hw]
    have hwl := way_len G i (by omega)
    have hgl : gl.length ≤ 5 := by have := G.e; have := G.l.le; omega
    generalize gl.getD i [] = lot at *
    generalize chosen ps ls gl i = q at *
    generalize (List.range i).flatMap (wayAt ps ls gl) = acc at *
    have s1 : gSl none (some (q.1 : Int)) [.val (eLot lot)] = some (.val (eLot (lot.take q.1))) := by
      rw [sl_to (by simp; omega), ← List.map_take]
    have s2 : gSl (some (q.2 : Int)) none [.val (eLot lot)] = some (.val (eLot (lot.drop q.2))) := by
      rw [sl_from (by simp; omega), ← List.map_drop]
    have s3 : gRev [.val (eLot (lot.take q.1))] = some (.val (eLot (lot.take q.1).reverse)) := by
      rw [rev_tup, ← List.map_reverse]
    have z1 : acc.length + (lot.take q.1).reverse.length ≤ 16777216 := by simp; omega
    have z2 : acc.length + (lot.take q.1).reverse.length + (lot.drop q.2).length ≤ 16777216 := by simp; omega
    have hz1 : (lot.take q.1).reverse.length ≤ 16777216 := by simp; omega
    have hz2 : (lot.drop q.2).length ≤ 16777216 := by simp; omega
    generalize lot.take q.1 = T at *
    generalize T.reverse = A at *
    generalize lot.drop q.2 = B at *
    simp [def0, cRet, cAndV, cNotV, cOp, cC, cV, cChain, cOrV, cOrT, cCall, cIfS, cNx, cBad, cSeq, cSet, cB, cAnd, cOr, cNot, cIf, cFz, cExpr, cMov, cYes, RE.bind, RE.toS, RS.then, evA, evP, Sm.Env.get, Sm.Env.put, Sm.Env.asg, getS, getM, startS, isCopy, lendC, backC, M.isHole, M.fz, M.view, Slot.cont, gN, gT, gsC, gsN, Sm.Env.wipe, Sm.Env.rest, wipeS, restS, cSl, asI, isLst, gApp, cMut, cPar, cPar3, cAsgG, LcOk, ForOk, RetOk, LcR, cLc, iSeq, itemsM, seqOf, gTupM, gLstM, valsOf, isi_int, isi_bool, isi_tup, isi_lst, len_tup, len_list, len_lst, g_sub, g_neg, g_add, g_lt, g_gt, g_le, g_ge, eq_int, ne_int, isN_int, isN_none, notN_int, notN_none, isN_tup, notN_tup, truD, cMeth, ok_chosen, hc, cRev, s1, g_neg, s3]
    rw [lc_ofY (fun b => eDeed (b, i, true)) (fun b hb => by simp [def0, cRet, cAndV, cNotV, cOp, cC, cV, cChain, cOrV, cOrT, cCall, cIfS, cNx, cBad, cSeq, cSet, cB, cAnd, cOr, cNot, cIf, cFz, cExpr, cMov, cYes, RE.bind, RE.toS, RS.then, evA, evP, Sm.Env.get, Sm.Env.put, Sm.Env.asg, getS, getM, startS, isCopy, lendC, backC, M.isHole, M.fz, M.view, Slot.cont, gN, gT, gsC, gsN, Sm.Env.wipe, Sm.Env.rest, wipeS, restS, cSl, asI, isLst, gApp, cMut, cPar, cPar3, cAsgG, LcOk, ForOk, RetOk, LcR, cLc, iSeq, itemsM, seqOf, gTupM, gLstM, valsOf, isi_int, isi_bool, isi_tup, isi_lst, len_tup, len_list, len_lst, g_sub, g_neg, g_add, g_lt, g_gt, g_le, g_ge, eq_int, ne_int, isN_int, isN_none, notN_int, notN_none, isN_tup, notN_tup, truD]) hz1]
    simp [def0, cRet, cAndV, cNotV, cOp, cC, cV, cChain, cOrV, cOrT, cCall, cIfS, cNx, cBad, cSeq, cSet, cB, cAnd, cOr, cNot, cIf, cFz, cExpr, cMov, cYes, RE.bind, RE.toS, RS.then, evA, evP, Sm.Env.get, Sm.Env.put, Sm.Env.asg, getS, getM, startS, isCopy, lendC, backC, M.isHole, M.fz, M.view, Slot.cont, gN, gT, gsC, gsN, Sm.Env.wipe, Sm.Env.rest, wipeS, restS, cSl, asI, isLst, gApp, cMut, cPar, cPar3, cAsgG, LcOk, ForOk, RetOk, LcR, cLc, iSeq, itemsM, seqOf, gTupM, gLstM, valsOf, isi_int, isi_bool, isi_tup, isi_lst, len_tup, len_list, len_lst, g_sub, g_neg, g_add, g_lt, g_gt, g_le, g_ge, eq_int, ne_int, isN_int, isN_none, notN_int, notN_none, isN_tup, notN_tup, truD, gExt, z1, s2]
    rw [lc_ofY (fun b => eDeed (b, i, false)) (fun b hb => by simp [def0, cRet, cAndV, cNotV, cOp, cC, cV, cChain, cOrV, cOrT, cCall, cIfS, cNx, cBad, cSeq, cSet, cB, cAnd, cOr, cNot, cIf, cFz, cExpr, cMov, cYes, RE.bind, RE.toS, RS.then, evA, evP, Sm.Env.get, Sm.Env.put, Sm.Env.asg, getS, getM, startS, isCopy, lendC, backC, M.isHole, M.fz, M.view, Slot.cont, gN, gT, gsC, gsN, Sm.Env.wipe, Sm.Env.rest, wipeS, restS, cSl, asI, isLst, gApp, cMut, cPar, cPar3, cAsgG, LcOk, ForOk, RetOk, LcR, cLc, iSeq, itemsM, seqOf, gTupM, gLstM, valsOf, isi_int, isi_bool, isi_tup, isi_lst, len_tup, len_list, len_lst, g_sub, g_neg, g_add, g_lt, g_gt, g_le, g_ge, eq_int, ne_int, isN_int, isN_none, notN_int, notN_none, isN_tup, notN_tup, truD]) hz2]
    have z2' : acc.length + (A.length + B.length) ≤ 16777216 := by omega
    simp [def0, cRet, cAndV, cNotV, cOp, cC, cV, cChain, cOrV, cOrT, cCall, cIfS, cNx, cBad, cSeq, cSet, cB, cAnd, cOr, cNot, cIf, cFz, cExpr, cMov, cYes, RE.bind, RE.toS, RS.then, evA, evP, Sm.Env.get, Sm.Env.put, Sm.Env.asg, getS, getM, startS, isCopy, lendC, backC, M.isHole, M.fz, M.view, Slot.cont, gN, gT, gsC, gsN, Sm.Env.wipe, Sm.Env.rest, wipeS, restS, cSl, asI, isLst, gApp, cMut, cPar, cPar3, cAsgG, LcOk, ForOk, RetOk, LcR, cLc, iSeq, itemsM, seqOf, gTupM, gLstM, valsOf, isi_int, isi_bool, isi_tup, isi_lst, len_tup, len_list, len_lst, g_sub, g_neg, g_add, g_lt, g_gt, g_le, g_ge, eq_int, ne_int, isN_int, isN_none, notN_int, notN_none, isN_tup, notN_tup, truD, gExt, z1, z2, z2', Function.comp_def])
  simp [def0, cRet, cAndV, cNotV, cOp, cC, cV, cChain, cOrV, cOrT, cCall, cIfS, cNx, cBad, cSeq, cSet, cB, cAnd, cOr, cNot, cIf, cFz, cExpr, cMov, cYes, RE.bind, RE.toS, RS.then, evA, evP, Sm.Env.get, Sm.Env.put, Sm.Env.asg, getS, getM, startS, isCopy, lendC, backC, M.isHole, M.fz, M.view, Slot.cont, gN, gT, gsC, gsN, Sm.Env.wipe, Sm.Env.rest, wipeS, restS, cSl, asI, isLst, gApp, cMut, cPar, cPar3, cAsgG, LcOk, ForOk, RetOk, LcR, cLc, iSeq, itemsM, seqOf, gTupM, gLstM, valsOf, isi_int, isi_bool, isi_tup, isi_lst, len_tup, len_list, len_lst, g_sub, g_neg, g_add, g_lt, g_gt, g_le, g_ge, eq_int, ne_int, isN_int, isN_none, notN_int, notN_none, isN_tup, notN_tup, truD, wayOf]
theorem e_leastO {ps ls gl} (G : Good ps ls gl) (h : barOf ps ls gl = .none) : d_leastO C [.val (eSh ps ls), .val (eLots gl)] = .ok (prT (.int (costOf ps ls gl)) (((wayOf ps ls gl).map eDeed).map .d)) [.val (eSh ps ls), .val (eLots gl)] := by
  unfold d_leastO b_leastO
  have h1 := e_wayO (C := C) G
  generalize hW : (wayOf ps ls gl).map eDeed = Wd at *
  simp [def0, cRet, cAndV, cNotV, cOp, cC, cV, cChain, cOrV, cOrT, cCall, cIfS, cNx, cBad, cSeq, cSet, cB, cAnd, cOr, cNot, cIf, cFz, cExpr, cMov, cYes, RE.bind, RE.toS, RS.then, evA, evP, Sm.Env.get, Sm.Env.put, Sm.Env.asg, getS, getM, startS, isCopy, lendC, backC, M.isHole, M.fz, M.view, Slot.cont, gN, gT, gsC, gsN, Sm.Env.wipe, Sm.Env.rest, wipeS, restS, cSl, asI, isLst, gApp, cMut, cPar, cPar3, cAsgG, LcOk, ForOk, RetOk, LcR, cLc, iSeq, itemsM, seqOf, gTupM, gLstM, valsOf, isi_int, isi_bool, isi_tup, isi_lst, len_tup, len_list, len_lst, g_sub, g_neg, g_add, g_lt, g_gt, g_le, g_ge, eq_int, ne_int, isN_int, isN_none, notN_int, notN_none, isN_tup, notN_tup, truD, e_task_of G, cMeth, ok_may, e_may G, h, ok_cost, ok_way, e_cost G, h1, cPr]
theorem eq_lots (a b : List (List Nat)) : gEq [.val (eLots a), .val (eLots b)] = some (.val (.bool (decide (a = b)))) := by
  have hc : ∀ a : List (List Nat), cl 60 (eLots a) = true := fun a => cl_tupl eLot 59 a fun l => cl_tupl nI 58 l fun _ => cl_int
  rw [gEq_cl rfl rfl (hc a) (hc b), eqv_dec (p := a = b) (hc a) (hc b) ?_]
  rw [PyData.tuple.injEq]
  refine List.map_inj_right fun x y h => ?_
  rw [PyData.tuple.injEq] at h
  refine (List.map_inj_right fun i j h => ?_).mp h
  simp at h; omega
theorem e_judged {ps ls gl} (G : Good ps ls gl) (D : List Deed) (h : ∀ d ∈ D, OkD ps ls.length d) (hz : D.length ≤ 100000) : d_judged C [.val (eSh ps ls), .val (eLots gl), .val (.list (D.map eDd))] = .ok (.val (.tuple [.bool (decide (runD ls D = gl)), .int (price ps (booksD D) - costOf ps ls (runD ls D))])) [.val (eSh ps ls), .val (eLots gl), .val (.list (D.map eDd))] := by
  have h1 := e_need_shelf (C := C) G
  have h2 := e_need_goal (C := C) G
  have h3 := e_need_list (C := C) (D.map eDd)
  have h4 := e_behind (C := C) ps ls D G.l.le G.pl G.l h hz
  have hR := runD_lots G.l D h
  have hlen := runD_len ls D
  have G2 : Good ps ls (runD ls D) := ⟨G.pn, G.pl, G.pr, G.l, ⟨hR.ne, by omega, hR.nd, hR.cov⟩, hlen⟩
  have h5 := e_Task_init (C := C) G2
  have h6 := e_cost (C := C) G2
  have h7 := eq_lots (runD ls D) gl
  unfold d_judged b_judged
  generalize D.map eDd = Ds at *
  generalize runD ls D = R at *
  generalize price ps (booksD D) = p at *
  simp [def0, cRet, cAndV, cNotV, cOp, cC, cV, cChain, cOrV, cOrT, cCall, cIfS, cNx, cBad, cSeq, cSet, cB, cAnd, cOr, cNot, cIf, cFz, cExpr, cMov, cYes, RE.bind, RE.toS, RS.then, evA, evP, Sm.Env.get, Sm.Env.put, Sm.Env.asg, getS, getM, startS, isCopy, lendC, backC, M.isHole, M.fz, M.view, Slot.cont, gN, gT, gsC, gsN, Sm.Env.wipe, Sm.Env.rest, wipeS, restS, cSl, asI, isLst, gApp, cMut, cPar, cPar3, cAsgG, LcOk, ForOk, RetOk, LcR, cLc, iSeq, itemsM, seqOf, gTupM, gLstM, valsOf, isi_int, isi_bool, isi_tup, isi_lst, len_tup, len_list, len_lst, g_sub, g_neg, g_add, g_lt, g_gt, g_le, g_ge, eq_int, ne_int, isN_int, isN_none, notN_int, notN_none, isN_tup, notN_tup, truD, h1, h2, h3, h4, h7, cMethE, cMake, h5, h6, ok_cost]
end
end Wk

/-! M52: k05: drawn deeds are judged as they lead. -/
namespace Wk
noncomputable section
open PySem PySem.Spec Sm Mp
variable {C : Str → Addr}
abbrev EJ (s : DSt) (S GL : PyData) (j3 j4 j5 j6 j7 j8 j9 j10 j11 : Sm.Slot) : Sm.Env := ⟨[.bor 0, .own (vv S), .own (vv GL), j3, j4, j5, j6, j7, j8, j9, j10, j11], [eSt s, vv S, vv GL]⟩
def PJ (ps : List (Option Int)) (ls : List (List Nat)) (S GL : PyData) (i : Nat) (e : Sm.Env) : Prop := ∃ (s' : DSt) (D : List Deed) (j5 j6 j7 j8 : Sm.Slot), (∀ d ∈ D, OkD ps ls.length d) ∧ D.length ≤ i ∧ e = EJ s' S GL (.own (vv (eLots (runD ls D)))) (.own (.lst (D.map eDd))) j5 j6 j7 j8 (.own .hole) (.own .hole) (.own .hole)
theorem PJ.mono {ps ls S GL i j e} (h : PJ ps ls S GL i e) (hij : i ≤ j) : PJ ps ls S GL j e := by
  obtain ⟨s', D, j5, j6, j7, j8, h1, h2, h3⟩ := h
  exact ⟨s', D, j5, j6, j7, j8, h1, by omega, h3⟩
theorem judged_loop {ps ls gl} (G : Good ps ls gl) (s : DSt) : ∃ e', PJ ps ls (eSh ps ls) (eLots gl) 12 e' ∧
    bl_w_judged_so_1 C (EJ s (eSh ps ls) (eLots gl) (.own (vv (eLots ls))) (.own (.lst [])) (.own .hole) (.own .hole) (.own .hole) (.own .hole) (.own .hole) (.own .hole) (.own .hole)) = .nx e' := by
  obtain ⟨n, s1, hn, d0⟩ := e_drawn (C := C) s 12 (by omega) (by omega)
  have d0' : d_w_drawn C [eSt s, .val (.int 12)] = .ok (.val (nI n)) [eSt s1, .val (.int 12)] := d0
  have hI := int1_nat (n := n) (by omega)
  have hx := ix_sh0 ps ls
  have hl1 : gLen [.val (ePs ps)] = some (.val (nI ps.length)) := by rw [len_tup]; simp
  have hpx : ∀ b, b < ps.length → gIx [.val (ePs ps), .val (nI b)] = some (.val (eP (pr ps b))) := fun b hb => ix_ps ps hb
  have hpl := G.pl
  have hpn := G.pn
  have hL := G.l
  unfold bl_w_judged_so_1
  generalize eSh ps ls = S at *
  generalize eLots gl = GL at *
  generalize ePs ps = P at *
  simp [def0, cRet, cAndV, cNotV, cOp, cC, cV, cChain, cOrV, cOrT, cCall, cIfS, cNx, cBad, cSeq, cSet, cB, cAnd, cOr, cNot, cIf, cFz, cExpr, cMov, cYes, RE.bind, RE.toS, RS.then, evA, evP, Sm.Env.get, Sm.Env.put, Sm.Env.asg, getS, getM, startS, isCopy, lendC, backC, M.isHole, M.fz, M.view, Slot.cont, gN, gT, gsC, gsN, Sm.Env.wipe, Sm.Env.rest, wipeS, restS, cSl, asI, isLst, gApp, cMut, cPar, cPar3, cAsgG, LcOk, ForOk, RetOk, LcR, cLc, iSeq, itemsM, seqOf, gTupM, gLstM, valsOf, isi_int, isi_bool, isi_tup, isi_lst, len_tup, len_list, len_lst, g_sub, g_neg, g_add, g_lt, g_gt, g_le, g_ge, eq_int, ne_int, isN_int, isN_none, notN_int, notN_none, isN_tup, notN_tup, truD, cFor, iRng1D, d0', hI, rng0_map]
  generalize hF : forD _ _ _ _ = F
  obtain ⟨e', rfl, hP⟩ := for_at hF (PJ ps ls S GL)
    ⟨s1, [], _, _, _, _, (fun d h => by cases h), by simp, rfl⟩ (fun i hi e ⟨s', D, j5, j6, j7, j8, hD, hDl, he⟩ => by
      subst he
      have hi : i < n := by simpa using hi
      have hR := runD_lots hL D hD
      have hlen := runD_len ls D
      have hle := hL.le
      have hl2 : gLen [.val (eLots (runD ls D))] = some (.val (nI (runD ls D).length)) := by rw [len_tup]; simp
      obtain ⟨b, s2, hb, d1⟩ := e_drawn (C := C) s' ps.length (List.length_pos_iff.mpr hpn) (by omega)
      obtain ⟨k, s3, hk, d2⟩ := e_drawn (C := C) s2 (runD ls D).length (List.length_pos_iff.mpr hR.ne) (by omega)
      obtain ⟨r, s4, hr, d3⟩ := e_drawn (C := C) s3 2 (by omega) (by omega)
      have d3' : d_w_drawn C [eSt s3, .val (.int 2)] = .ok (.val (nI r)) [eSt s4, .val (.int 2)] := d3
      obtain ⟨fr, hfr⟩ := pickE hr
      have hpb := hpx b hb
      have hpl2 := e_wplaced (C := C) (runD ls D) b k fr hk (by omega) (fun l hl => by have := hR.len hl; omega)
      have hsn : runD ls (D ++ [(b, k, fr)]) = placedL (runD ls D) b k fr := runD_snoc _ _ _
      have hz : (D.map eDd).length < 16777216 := by rw [List.length_map]; omega
      rw [List.getElem_range]
      cases q : pr ps b with
      | none =>
        rw [q] at hpb
        have fin : ∀ a5 a6 a7 a8, PJ ps ls S GL (i + 1) (EJ s4 S GL (.own (vv (eLots (runD ls D)))) (.own (.lst (D.map eDd))) a5 a6 a7 a8 (.own .hole) (.own .hole) (.own .hole)) := fun a5 a6 a7 a8 => ⟨s4, D, a5, a6, a7, a8, hD, by omega, rfl⟩
        generalize PJ ps ls S GL (i + 1) = PP at *
        generalize eLots (runD ls D) = R at *
        generalize D.map eDd = Dd at *
        generalize eEnd fr = FE at *
        simp [def0, cRet, cAndV, cNotV, cOp, cC, cV, cChain, cOrV, cOrT, cCall, cIfS, cNx, cBad, cSeq, cSet, cB, cAnd, cOr, cNot, cIf, cFz, cExpr, cMov, cYes, RE.bind, RE.toS, RS.then, evA, evP, Sm.Env.get, Sm.Env.put, Sm.Env.asg, getS, getM, startS, isCopy, lendC, backC, M.isHole, M.fz, M.view, Slot.cont, gN, gT, gsC, gsN, Sm.Env.wipe, Sm.Env.rest, wipeS, restS, cSl, asI, isLst, gApp, cMut, cPar, cPar3, cAsgG, LcOk, ForOk, RetOk, LcR, cLc, iSeq, itemsM, seqOf, gTupM, gLstM, valsOf, isi_int, isi_bool, isi_tup, isi_lst, len_tup, len_list, len_lst, g_sub, g_neg, g_add, g_lt, g_gt, g_le, g_ge, eq_int, ne_int, isN_int, isN_none, notN_int, notN_none, isN_tup, notN_tup, truD, hx, hl1, hl2, d1, d2, d3', hfr, hpb]
        exact fin _ _ _ _
      | some x =>
        rw [q] at hpb
        have fin : ∀ a5 a6 a7 a8, PJ ps ls S GL (i + 1) (EJ s4 S GL (.own (vv (eLots (placedL (runD ls D) b k fr)))) (.own (.lst (D.map eDd ++ [.tuple [nI b, nI k, eEnd fr]]))) a5 a6 a7 a8 (.own .hole) (.own .hole) (.own .hole)) := fun a5 a6 a7 a8 => by
          refine ⟨s4, D ++ [(b, k, fr)], a5, a6, a7, a8, fun d hd => ?_, by rw [List.length_append]; simp; omega, ?_⟩
          · rcases List.mem_append.mp hd with h | h
            · exact hD d h
            · have : d = (b, k, fr) := by simpa using h
              subst this
              exact ⟨hb, by rw [← hlen]; exact hk, by rw [q]; simp⟩
          · rw [hsn, List.map_append]; rfl
        generalize PJ ps ls S GL (i + 1) = PP at *
        generalize eLots (placedL (runD ls D) b k fr) = R2 at *
        generalize eLots (runD ls D) = R at *
        generalize D.map eDd = Dd at *
        generalize eEnd fr = FE at *
        simp [def0, cRet, cAndV, cNotV, cOp, cC, cV, cChain, cOrV, cOrT, cCall, cIfS, cNx, cBad, cSeq, cSet, cB, cAnd, cOr, cNot, cIf, cFz, cExpr, cMov, cYes, RE.bind, RE.toS, RS.then, evA, evP, Sm.Env.get, Sm.Env.put, Sm.Env.asg, getS, getM, startS, isCopy, lendC, backC, M.isHole, M.fz, M.view, Slot.cont, gN, gT, gsC, gsN, Sm.Env.wipe, Sm.Env.rest, wipeS, restS, cSl, asI, isLst, gApp, cMut, cPar, cPar3, cAsgG, LcOk, ForOk, RetOk, LcR, cLc, iSeq, itemsM, seqOf, gTupM, gLstM, valsOf, isi_int, isi_bool, isi_tup, isi_lst, len_tup, len_list, len_lst, g_sub, g_neg, g_add, g_lt, g_gt, g_le, g_ge, eq_int, ne_int, isN_int, isN_none, notN_int, notN_none, isN_tup, notN_tup, truD, hx, hl1, hl2, d1, d2, d3', hfr, hpb, hpl2, hz]
        exact fin _ _ _ _)
  rw [List.length_range] at hP
  have := hP.mono (Nat.le_of_lt hn)
  simp [def0, cRet, cAndV, cNotV, cOp, cC, cV, cChain, cOrV, cOrT, cCall, cIfS, cNx, cBad, cSeq, cSet, cB, cAnd, cOr, cNot, cIf, cFz, cExpr, cMov, cYes, RE.bind, RE.toS, RS.then, evA, evP, Sm.Env.get, Sm.Env.put, Sm.Env.asg, getS, getM, startS, isCopy, lendC, backC, M.isHole, M.fz, M.view, Slot.cont, gN, gT, gsC, gsN, Sm.Env.wipe, Sm.Env.rest, wipeS, restS, cSl, asI, isLst, gApp, cMut, cPar, cPar3, cAsgG, LcOk, ForOk, RetOk, LcR, cLc, iSeq, itemsM, seqOf, gTupM, gLstM, valsOf, isi_int, isi_bool, isi_tup, isi_lst, len_tup, len_list, len_lst, g_sub, g_neg, g_add, g_lt, g_gt, g_le, g_ge, eq_int, ne_int, isN_int, isN_none, notN_int, notN_none, isN_tup, notN_tup, truD, this]
end
end Wk

/-! M53: k05: drawn deeds are judged as they lead, told. -/
namespace Wk
noncomputable section
open PySem PySem.Spec Sm Mp
variable {C : Str → Addr}
theorem least_open {ps ls gl} (h : barOf ps ls gl = .none) : eLeast ps ls gl = .tuple [.int (costOf ps ls gl), .list ((wayOf ps ls gl).map eDd)] := by
  unfold eLeast
  rw [if_pos h]
theorem e_w_judged_so {ps ls gl} (G : Good ps ls gl) (s : DSt) : ∃ s', d_w_judged_so C [eSt s, .val (eSh ps ls), .val (eLots gl)] = .ok (.val (.bool true)) [eSt s', .val (eSh ps ls), .val (eLots gl)] := by
  obtain ⟨e1, ⟨s', D, j5, j6, j7, j8, hD, hDl, rfl⟩, h1⟩ := judged_loop (C := C) G s
  refine ⟨s', ?_⟩
  have hy := ix_sh1 ps ls
  have hR := runD_lots G.l D hD
  have hlen := runD_len ls D
  have G2 : Good ps ls (runD ls D) := ⟨G.pn, G.pl, G.pr, G.l, ⟨hR.ne, by omega, hR.nd, hR.cov⟩, hlen⟩
  have hop := bar_open.mpr (runD_open G.l D hD)
  have hl := e_least (C := C) G2
  rw [least_open hop] at hl
  have hd := e_done (C := C) G D hD (by omega)
  have hj := e_judged (C := C) G D hD (by omega)
  have q1 := eq_lots (runD ls D) (runD ls D)
  rw [decide_eq_true rfl] at q1
  have q2 := eq_lots (runD ls D) gl
  have hge : 0 ≤ price ps (booksD D) - costOf ps ls (runD ls D) := by
    have := runD_cost (w := pw ps) (pw_nonneg G.pr) G.l D hD
    rw [price_sw, cost_CS]; omega
  have h0 : bl_w_judged_so_0 C (EJ s (eSh ps ls) (eLots gl) (.own .hole) (.own .hole) (.own .hole) (.own .hole) (.own .hole) (.own .hole) (.own .hole) (.own .hole) (.own .hole)) = .nx (EJ s (eSh ps ls) (eLots gl) (.own (vv (eLots ls))) (.own (.lst [])) (.own .hole) (.own .hole) (.own .hole) (.own .hole) (.own .hole) (.own .hole) (.own .hole)) := by
    unfold bl_w_judged_so_0
    generalize eSh ps ls = S at *
    generalize eLots ls = LS at *
    generalize eLots gl = GL at *
    simp [def0, cRet, cAndV, cNotV, cOp, cC, cV, cChain, cOrV, cOrT, cCall, cIfS, cNx, cBad, cSeq, cSet, cB, cAnd, cOr, cNot, cIf, cFz, cExpr, cMov, cYes, RE.bind, RE.toS, RS.then, evA, evP, Sm.Env.get, Sm.Env.put, Sm.Env.asg, getS, getM, startS, isCopy, lendC, backC, M.isHole, M.fz, M.view, Slot.cont, gN, gT, gsC, gsN, Sm.Env.wipe, Sm.Env.rest, wipeS, restS, cSl, asI, isLst, gApp, cMut, cPar, cPar3, cAsgG, LcOk, ForOk, RetOk, LcR, cLc, iSeq, itemsM, seqOf, gTupM, gLstM, valsOf, isi_int, isi_bool, isi_tup, isi_lst, len_tup, len_list, len_lst, g_sub, g_neg, g_add, g_lt, g_gt, g_le, g_ge, eq_int, ne_int, isN_int, isN_none, notN_int, notN_none, isN_tup, notN_tup, truD, hy]
  have hst : (⟨startS 0 9 [eSt s, .val (eSh ps ls), .val (eLots gl)], [eSt s, .val (eSh ps ls), .val (eLots gl)]⟩ : Sm.Env) = EJ s (eSh ps ls) (eLots gl) (.own .hole) (.own .hole) (.own .hole) (.own .hole) (.own .hole) (.own .hole) (.own .hole) (.own .hole) (.own .hole) := rfl
  have x0 : ∀ a b : PyData, gIx [.val (.tuple [a, b]), .val (.int 0)] = some (.val a) := fun _ _ => rfl
  have x1 : ∀ a b : PyData, gIx [.val (.tuple [a, b]), .val (.int 1)] = some (.val b) := fun _ _ => rfl
  have ht : ∀ (b : Bool) (i : Int), gEq [.val (.tuple [.bool b, .int i]), .val (.tuple [.bool b, .int i])] = some (.val (.bool true)) := fun b i => by
    have hk : eqOk (.tuple [.bool b, .int i]) (.tuple [.bool b, .int i]) = true := rfl
    have he : PyData.eqv (.tuple [.bool b, .int i]) (.tuple [.bool b, .int i]) = true := by simp [PyData.eqv, PyData.eqvAll]
    show (match eqOk (.tuple [.bool b, .int i]) (.tuple [.bool b, .int i]) with
      | true => some (M.val (.bool (PyData.eqv (.tuple [.bool b, .int i]) (.tuple [.bool b, .int i]))))
      | false => none) = _
    rw [hk, he]
  have h2 : bl_w_judged_so_2 C (EJ s' (eSh ps ls) (eLots gl) (.own (vv (eLots (runD ls D)))) (.own (.lst (D.map eDd))) j5 j6 j7 j8 (.own .hole) (.own .hole) (.own .hole)) = .nx (EJ s' (eSh ps ls) (eLots gl) (.own (vv (eLots (runD ls D)))) (.own (vv (.list (D.map eDd)))) j5 j6 j7 j8 (.own (vv (eLots (runD ls D)))) (.own (vv (.int (price ps (booksD D))))) (.own .hole)) := by
    unfold bl_w_judged_so_2
    generalize eSh ps ls = S at *
    generalize eLots gl = GL at *
    generalize eLots (runD ls D) = R at *
    generalize D.map eDd = Dd at *
    generalize price ps (booksD D) = p at *
    simp [def0, cRet, cAndV, cNotV, cOp, cC, cV, cChain, cOrV, cOrT, cCall, cIfS, cNx, cBad, cSeq, cSet, cB, cAnd, cOr, cNot, cIf, cFz, cExpr, cMov, cYes, RE.bind, RE.toS, RS.then, evA, evP, Sm.Env.get, Sm.Env.put, Sm.Env.asg, getS, getM, startS, isCopy, lendC, backC, M.isHole, M.fz, M.view, Slot.cont, gN, gT, gsC, gsN, Sm.Env.wipe, Sm.Env.rest, wipeS, restS, cSl, asI, isLst, gApp, cMut, cPar, cPar3, cAsgG, LcOk, ForOk, RetOk, LcR, cLc, iSeq, itemsM, seqOf, gTupM, gLstM, valsOf, isi_int, isi_bool, isi_tup, isi_lst, len_tup, len_list, len_lst, g_sub, g_neg, g_add, g_lt, g_gt, g_le, g_ge, eq_int, ne_int, isN_int, isN_none, notN_int, notN_none, isN_tup, notN_tup, truD, cFrz, hd]
  have h3 : bl_w_judged_so_3 C (EJ s' (eSh ps ls) (eLots gl) (.own (vv (eLots (runD ls D)))) (.own (vv (.list (D.map eDd)))) j5 j6 j7 j8 (.own (vv (eLots (runD ls D)))) (.own (vv (.int (price ps (booksD D))))) (.own .hole)) = .nx (EJ s' (eSh ps ls) (eLots gl) (.own (vv (eLots (runD ls D)))) (.own (vv (.list (D.map eDd)))) j5 j6 j7 j8 (.own (vv (eLots (runD ls D)))) (.own (vv (.int (price ps (booksD D))))) (.own (vv (.tuple [.bool (decide (runD ls D = gl)), .int (price ps (booksD D) - costOf ps ls (runD ls D))])))) := by
    unfold bl_w_judged_so_3
    generalize decide (runD ls D = gl) = bb at *
    generalize eSh ps ls = S at *
    generalize eLots gl = GL at *
    generalize eLots (runD ls D) = R at *
    generalize D.map eDd = Dd at *
    generalize price ps (booksD D) = p at *
    generalize costOf ps ls (runD ls D) = c at *
    simp [def0, cRet, cAndV, cNotV, cOp, cC, cV, cChain, cOrV, cOrT, cCall, cIfS, cNx, cBad, cSeq, cSet, cB, cAnd, cOr, cNot, cIf, cFz, cExpr, cMov, cYes, RE.bind, RE.toS, RS.then, evA, evP, Sm.Env.get, Sm.Env.put, Sm.Env.asg, getS, getM, startS, isCopy, lendC, backC, M.isHole, M.fz, M.view, Slot.cont, gN, gT, gsC, gsN, Sm.Env.wipe, Sm.Env.rest, wipeS, restS, cSl, asI, isLst, gApp, cMut, cPar, cPar3, cAsgG, LcOk, ForOk, RetOk, LcR, cLc, iSeq, itemsM, seqOf, gTupM, gLstM, valsOf, isi_int, isi_bool, isi_tup, isi_lst, len_tup, len_list, len_lst, g_sub, g_neg, g_add, g_lt, g_gt, g_le, g_ge, eq_int, ne_int, isN_int, isN_none, notN_int, notN_none, isN_tup, notN_tup, truD, hj]
  have h4 : bl_w_judged_so_4 C (EJ s' (eSh ps ls) (eLots gl) (.own (vv (eLots (runD ls D)))) (.own (vv (.list (D.map eDd)))) j5 j6 j7 j8 (.own (vv (eLots (runD ls D)))) (.own (vv (.int (price ps (booksD D))))) (.own (vv (.tuple [.bool (decide (runD ls D = gl)), .int (price ps (booksD D) - costOf ps ls (runD ls D))])))) = .ret (vv (.bool true)) (EJ s' (eSh ps ls) (eLots gl) (.own (vv (eLots (runD ls D)))) (.own (vv (.list (D.map eDd)))) j5 j6 j7 j8 (.own (vv (eLots (runD ls D)))) (.own (vv (.int (price ps (booksD D))))) (.own (vv (.tuple [.bool (decide (runD ls D = gl)), .int (price ps (booksD D) - costOf ps ls (runD ls D))])))) := by
    unfold bl_w_judged_so_4
    generalize decide (runD ls D = gl) = bb at *
    generalize (wayOf ps ls (runD ls D)).map eDd = Wd at *
    generalize eSh ps ls = S at *
    generalize eLots gl = GL at *
    generalize eLots (runD ls D) = R at *
    generalize D.map eDd = Dd at *
    generalize price ps (booksD D) = p at *
    generalize costOf ps ls (runD ls D) = c at *
    have ht' := ht bb (p - c)
    have hge' : c ≤ p := by omega
    simp [def0, cRet, cAndV, cNotV, cOp, cC, cV, cChain, cOrV, cOrT, cCall, cIfS, cNx, cBad, cSeq, cSet, cB, cAnd, cOr, cNot, cIf, cFz, cExpr, cMov, cYes, RE.bind, RE.toS, RS.then, evA, evP, Sm.Env.get, Sm.Env.put, Sm.Env.asg, getS, getM, startS, isCopy, lendC, backC, M.isHole, M.fz, M.view, Slot.cont, gN, gT, gsC, gsN, Sm.Env.wipe, Sm.Env.rest, wipeS, restS, cSl, asI, isLst, gApp, cMut, cPar, cPar3, cAsgG, LcOk, ForOk, RetOk, LcR, cLc, iSeq, itemsM, seqOf, gTupM, gLstM, valsOf, isi_int, isi_bool, isi_tup, isi_lst, len_tup, len_list, len_lst, g_sub, g_neg, g_add, g_lt, g_gt, g_le, g_ge, eq_int, ne_int, isN_int, isN_none, notN_int, notN_none, isN_tup, notN_tup, truD, q1, q2, hl, x0, x1, ht', hge']
  unfold d_w_judged_so def0 b_w_judged_so
  rw [show (decide ([eSt s, M.val (eSh ps ls), .val (eLots gl)].length = 3)) = true from rfl]
  dsimp only
  rw [hst]
  dsimp only [cSeq, RS.then]
  rw [h0]; dsimp only
  rw [h1]; dsimp only
  rw [h2]; dsimp only
  rw [h3]; dsimp only
  rw [h4]
end
end Wk

/-! M54: k05: the law's steps. -/
namespace Wk
noncomputable section
open PySem PySem.Spec Sm Mp
variable {C : Str → Addr}
theorem Shelf.good {ps : List (Option Int)} {ls gl : List (List Nat)} (S : Shelf ps ls 12 5) (h1 : gl.length = ls.length) (h2 : gl.flatten.Perm (List.range ps.length)) : Good ps ls gl := by
  have hne : ls ≠ [] := fun z => by have := S.ln; rw [z] at this; simp at this
  refine ⟨S.pn, S.pl, S.pr, Lots.of_perm hne S.ll S.lp, Lots.of_perm (fun z => ?_) (by omega) h2, h1⟩
  rw [z] at h1
  exact hne (List.eq_nil_of_length_eq_zero h1.symm)
theorem ne_same {d : PyData} (h : cl 60 d = true) : gNe [.val d, .val d] = some (.val (.bool false)) := by
  rw [gNe_cl rfl rfl h h]
  have : PyData.eqv d d = true := (cl_eqv 60 60 d d h h).mpr rfl
  rw [this]; rfl
theorem isN_least (ps ls gl) : gIsN [.val (eLeast ps ls gl), .val .none] = some (.val (.bool (!decide (barOf ps ls gl = .none)))) := by
  unfold eLeast
  by_cases h : barOf ps ls gl = .none
  · simp only [h, if_true]; rfl
  · simp only [h, if_false]; rfl
theorem notN_least (ps ls gl) : gNotN [.val (eLeast ps ls gl), .val .none] = some (.val (.bool (decide (barOf ps ls gl = .none)))) := by
  unfold eLeast
  by_cases h : barOf ps ls gl = .none
  · simp only [h, if_true]; rfl
  · simp only [h, if_false]; rfl
theorem isN_few (ps ls gl) : gIsN [.val (eFew ps ls gl), .val .none] = some (.val (.bool (!decide (barOf ps ls gl = .none)))) := by
  unfold eFew
  by_cases h : barOf ps ls gl = .none
  · simp only [h, if_true]; rfl
  · simp only [h, if_false]; rfl
theorem notN_bar (b : Bar) : gNotN [.val (eBar b), .val .none] = some (.val (.bool (!decide (b = .none)))) := by cases b <;> rfl
abbrev E05 (T : M) (s : DSt) (j2 j3 j4 j5 j6 j7 j8 j9 j10 j11 j12 j13 : Sm.Slot) : Sm.Env := ⟨[.own T, .own (eSt s), j2, j3, j4, j5, j6, j7, j8, j9, j10, j11, j12, j13], [T]⟩
variable {T : M} {s : DSt} {j2 j3 j4 j5 j6 j7 j8 j9 j10 j11 j12 j13 : Sm.Slot} {ps : List (Option Int)} {ls gl : List (List Nat)}
theorem k05_8 : ∃ (s' : DSt) (ps : List (Option Int)) (ls : List (List Nat)), Shelf ps ls 12 5 ∧ bl_law_8 C (E05 T s j2 j3 j4 j5 j6 j7 j8 j9 j10 j11 j12 j13) = .nx (E05 T s' j2 (.own (vv (eSh ps ls))) j4 j5 j6 j7 j8 j9 j10 j11 j12 j13) := by
  obtain ⟨s', ps, ls, S, h⟩ := e_shelf (C := C) s 12 5 (by omega) (by omega) (by omega) (by omega)
  have h' : d_w_shelf C [eSt s, .val (.int 12), .val (.int 5)] = .ok (.val (eSh ps ls)) [eSt s', .val (.int 12), .val (.int 5)] := h
  refine ⟨s', ps, ls, S, ?_⟩
  unfold bl_law_8
  simp [def0, cRet, cAndV, cNotV, cOp, cC, cV, cChain, cOrV, cOrT, cCall, cIfS, cNx, cBad, cSeq, cSet, cB, cAnd, cOr, cNot, cIf, cFz, cExpr, cMov, cYes, RE.bind, RE.toS, RS.then, evA, evP, Sm.Env.get, Sm.Env.put, Sm.Env.asg, getS, getM, startS, isCopy, lendC, backC, M.isHole, M.fz, M.view, Slot.cont, gN, gT, gsC, gsN, Sm.Env.wipe, Sm.Env.rest, wipeS, restS, cSl, asI, isLst, gApp, cMut, cPar, cPar3, cAsgG, LcOk, ForOk, RetOk, LcR, cLc, iSeq, itemsM, seqOf, gTupM, gLstM, valsOf, isi_int, isi_bool, isi_tup, isi_lst, len_tup, len_list, len_lst, g_sub, g_neg, g_add, g_lt, g_gt, g_le, g_ge, eq_int, ne_int, isN_int, isN_none, notN_int, notN_none, isN_tup, notN_tup, truD, h']
theorem k05_9 (S : Shelf ps ls 12 5) : ∃ (s' : DSt) (gl : List (List Nat)), Good ps ls gl ∧ bl_law_9 C (E05 T s j2 (.own (vv (eSh ps ls))) j4 j5 j6 j7 j8 j9 j10 j11 j12 j13) = .nx (E05 T s' j2 (.own (vv (eSh ps ls))) (.own (vv (eLots gl))) j5 j6 j7 j8 j9 j10 j11 j12 j13) := by
  obtain ⟨s', gl, h1, h2, h⟩ := e_goal (C := C) s ps ls S
  refine ⟨s', gl, S.good h1 h2, ?_⟩
  unfold bl_law_9
  generalize eSh ps ls = D at *
  generalize eLots gl = L at *
  simp [def0, cRet, cAndV, cNotV, cOp, cC, cV, cChain, cOrV, cOrT, cCall, cIfS, cNx, cBad, cSeq, cSet, cB, cAnd, cOr, cNot, cIf, cFz, cExpr, cMov, cYes, RE.bind, RE.toS, RS.then, evA, evP, Sm.Env.get, Sm.Env.put, Sm.Env.asg, getS, getM, startS, isCopy, lendC, backC, M.isHole, M.fz, M.view, Slot.cont, gN, gT, gsC, gsN, Sm.Env.wipe, Sm.Env.rest, wipeS, restS, cSl, asI, isLst, gApp, cMut, cPar, cPar3, cAsgG, LcOk, ForOk, RetOk, LcR, cLc, iSeq, itemsM, seqOf, gTupM, gLstM, valsOf, isi_int, isi_bool, isi_tup, isi_lst, len_tup, len_list, len_lst, g_sub, g_neg, g_add, g_lt, g_gt, g_le, g_ge, eq_int, ne_int, isN_int, isN_none, notN_int, notN_none, isN_tup, notN_tup, truD, h]
theorem k05_10 (G : Good ps ls gl) : bl_law_10 C (E05 T s j2 (.own (vv (eSh ps ls))) (.own (vv (eLots gl))) j5 j6 j7 j8 j9 j10 j11 j12 j13) = .nx (E05 T s j2 (.own (vv (eSh ps ls))) (.own (vv (eLots gl))) (.own (vv (eLeast ps ls gl))) (.own (vv (eFew ps ls gl))) (.own (vv (eBar (barOf ps ls gl)))) j8 j9 j10 j11 j12 j13) := by
  have h1 := e_least (C := C) G
  have h2 := e_fewest (C := C) G
  have h3 := e_barred (C := C) G
  unfold bl_law_10
  generalize eSh ps ls = D at *
  generalize eLots gl = L at *
  generalize eLeast ps ls gl = U at *
  generalize eFew ps ls gl = V at *
  generalize eBar (barOf ps ls gl) = W at *
  simp [def0, cRet, cAndV, cNotV, cOp, cC, cV, cChain, cOrV, cOrT, cCall, cIfS, cNx, cBad, cSeq, cSet, cB, cAnd, cOr, cNot, cIf, cFz, cExpr, cMov, cYes, RE.bind, RE.toS, RS.then, evA, evP, Sm.Env.get, Sm.Env.put, Sm.Env.asg, getS, getM, startS, isCopy, lendC, backC, M.isHole, M.fz, M.view, Slot.cont, gN, gT, gsC, gsN, Sm.Env.wipe, Sm.Env.rest, wipeS, restS, cSl, asI, isLst, gApp, cMut, cPar, cPar3, cAsgG, LcOk, ForOk, RetOk, LcR, cLc, iSeq, itemsM, seqOf, gTupM, gLstM, valsOf, isi_int, isi_bool, isi_tup, isi_lst, len_tup, len_list, len_lst, g_sub, g_neg, g_add, g_lt, g_gt, g_le, g_ge, eq_int, ne_int, isN_int, isN_none, notN_int, notN_none, isN_tup, notN_tup, truD, h1, h2, h3]
theorem k05_11 (G : Good ps ls gl) : bl_law_11 C (E05 T s j2 (.own (vv (eSh ps ls))) (.own (vv (eLots gl))) (.own (vv (eLeast ps ls gl))) (.own (vv (eFew ps ls gl))) (.own (vv (eBar (barOf ps ls gl)))) j8 j9 j10 j11 j12 j13) = .nx (E05 T s j2 (.own (vv (eSh ps ls))) (.own (vv (eLots gl))) (.own (vv (eLeast ps ls gl))) (.own (vv (eFew ps ls gl))) (.own (vv (eBar (barOf ps ls gl)))) j8 j9 j10 j11 j12 j13) := by
  have h1 := isN_least ps ls gl
  have h2 := isN_few ps ls gl
  have h3 := notN_bar (barOf ps ls gl)
  have h4 := e_Ways (C := C) G
  have h5 : decide (numWays ps ls gl = 0) = !decide (barOf ps ls gl = .none) := by
    unfold numWays
    by_cases h : barOf ps ls gl = .none
    · rw [if_pos h, decide_eq_true h]
      have := ways_pos (ps := ps) (ls := ls) (gl := gl)
      exact decide_eq_false (by omega)
    · rw [if_neg h, decide_eq_false h]; rfl
  have h6 : ∀ b : Bool, gMulV [.lst [.bool b], .val (.int 3)] = some (.lst [.bool b, .bool b, .bool b]) := fun b => by cases b <;> rfl
  have h7 : ∀ b : Bool, gNe [.lst [.bool b, .bool b, .bool b], .lst [.bool b, .bool b, .bool b]] = some (.val (.bool false)) := fun b => by cases b <;> rfl
  unfold bl_law_11
  generalize eSh ps ls = D at *
  generalize eLots gl = L at *
  generalize eLeast ps ls gl = U at *
  generalize eFew ps ls gl = V at *
  generalize eBar (barOf ps ls gl) = W at *
  generalize (!decide (barOf ps ls gl = .none)) = bb at *
  generalize numWays ps ls gl = N at *
  have h6' := h6 bb
  have h7' := h7 bb
  simp [def0, cRet, cAndV, cNotV, cOp, cC, cV, cChain, cOrV, cOrT, cCall, cIfS, cNx, cBad, cSeq, cSet, cB, cAnd, cOr, cNot, cIf, cFz, cExpr, cMov, cYes, RE.bind, RE.toS, RS.then, evA, evP, Sm.Env.get, Sm.Env.put, Sm.Env.asg, getS, getM, startS, isCopy, lendC, backC, M.isHole, M.fz, M.view, Slot.cont, gN, gT, gsC, gsN, Sm.Env.wipe, Sm.Env.rest, wipeS, restS, cSl, asI, isLst, gApp, cMut, cPar, cPar3, cAsgG, LcOk, ForOk, RetOk, LcR, cLc, iSeq, itemsM, seqOf, gTupM, gLstM, valsOf, isi_int, isi_bool, isi_tup, isi_lst, len_tup, len_list, len_lst, g_sub, g_neg, g_add, g_lt, g_gt, g_le, g_ge, eq_int, ne_int, isN_int, isN_none, notN_int, notN_none, isN_tup, notN_tup, truD, h1, h2, h3, h4, h5, h6', h7']
end
end Wk

/-! M55: k05: the steps where a goal can be come to; the law. -/
namespace Wk
noncomputable section
open PySem PySem.Spec Sm Mp
variable {C : Str → Addr}
variable {T : M} {s : DSt} {j2 j3 j4 j5 j6 j7 j8 j9 j10 j11 j12 j13 : Sm.Slot} {ps : List (Option Int)} {ls gl : List (List Nat)}
theorem cl_endS (b : Bool) (n : Nat) : cl n (eEnd b) = true := by
  cases b
  · exact cl_str (by decide +kernel)
  · exact cl_str (by decide +kernel)
theorem cl_dd (n : Nat) (d : Deed) : cl (n + 1) (eDd d) = true := by rw [cl_tup]; simp [cl_int, cl_endS]
theorem cl_lots5 (n : Nat) (ls : List (List Nat)) : cl (n + 2) (eLots ls) = true := cl_tupl eLot (n + 1) ls fun l => cl_lot n l
theorem way_short {ps ls gl} (G : Good ps ls gl) : (wayOf ps ls gl).length ≤ 120 := by
  have := way_len G gl.length (Nat.le_refl _)
  have := G.e; have := G.l.le
  unfold wayOf; omega
theorem k05_0 (ha : barOf ps ls gl = .none) : bl_law_0 C (E05 T s j2 j3 j4 (.own (vv (eLeast ps ls gl))) j6 j7 j8 j9 j10 j11 j12 j13) = .nx (E05 T s j2 j3 j4 (.own (vv (eLeast ps ls gl))) j6 j7 (.own (vv (.int (costOf ps ls gl)))) (.own (vv (.list ((wayOf ps ls gl).map eDd)))) j10 j11 j12 j13) := by
  rw [least_open ha]
  unfold bl_law_0
  generalize (wayOf ps ls gl).map eDd = W at *
  generalize costOf ps ls gl = c at *
  simp [def0, cRet, cAndV, cNotV, cOp, cC, cV, cChain, cOrV, cOrT, cCall, cIfS, cNx, cBad, cSeq, cSet, cB, cAnd, cOr, cNot, cIf, cFz, cExpr, cMov, cYes, RE.bind, RE.toS, RS.then, evA, evP, Sm.Env.get, Sm.Env.put, Sm.Env.asg, getS, getM, startS, isCopy, lendC, backC, M.isHole, M.fz, M.view, Slot.cont, gN, gT, gsC, gsN, Sm.Env.wipe, Sm.Env.rest, wipeS, restS, cSl, asI, isLst, gApp, cMut, cPar, cPar3, cAsgG, LcOk, ForOk, RetOk, LcR, cLc, iSeq, itemsM, seqOf, gTupM, gLstM, valsOf, isi_int, isi_bool, isi_tup, isi_lst, len_tup, len_list, len_lst, g_sub, g_neg, g_add, g_lt, g_gt, g_le, g_ge, eq_int, ne_int, isN_int, isN_none, notN_int, notN_none, isN_tup, notN_tup, truD]
theorem k05_1 (G : Good ps ls gl) (ha : barOf ps ls gl = .none) : bl_law_1 C (E05 T s j2 (.own (vv (eSh ps ls))) (.own (vv (eLots gl))) j5 (.own (vv (eFew ps ls gl))) j7 (.own (vv (.int (costOf ps ls gl)))) (.own (vv (.list ((wayOf ps ls gl).map eDd)))) j10 j11 j12 j13) = .nx (E05 T s j2 (.own (vv (eSh ps ls))) (.own (vv (eLots gl))) j5 (.own (vv (eFew ps ls gl))) j7 (.own (vv (.int (costOf ps ls gl)))) (.own (vv (.list ((wayOf ps ls gl).map eDd)))) j10 j11 j12 j13) := by
  have ho := bar_open.mp ha
  have hok := way_ok G.l G.g G.e ho
  have hd := e_done (C := C) G (wayOf ps ls gl) hok (by have := way_short G; omega)
  rw [way_leads G.l G.g G.e, way_cost G.l G.g] at hd
  have hc : cl 60 (.tuple [eLots gl, .int (costOf ps ls gl)]) = true := by rw [cl_tup]; simp [cl_int, cl_lots5]
  have hs := ne_same hc
  have hf : eFew ps ls gl = .int (fewOf ps ls gl) := by unfold eFew; rw [if_pos ha]
  have hw := few_way G.l G.g G.e ho
  have hlen : gLen [.val (.list ((wayOf ps ls gl).map eDd))] = some (.val (nI (wayOf ps ls gl).length)) := by rw [len_list]; simp
  have hlt : ¬ ((wayOf ps ls gl).length : Int) < fewOf ps ls gl := by omega
  rw [hf]
  unfold bl_law_1
  generalize (wayOf ps ls gl).length = n at *
  generalize (wayOf ps ls gl).map eDd = W at *
  generalize costOf ps ls gl = c at *
  generalize fewOf ps ls gl = f at *
  generalize eSh ps ls = S at *
  generalize eLots gl = GL at *
  simp [def0, cRet, cAndV, cNotV, cOp, cC, cV, cChain, cOrV, cOrT, cCall, cIfS, cNx, cBad, cSeq, cSet, cB, cAnd, cOr, cNot, cIf, cFz, cExpr, cMov, cYes, RE.bind, RE.toS, RS.then, evA, evP, Sm.Env.get, Sm.Env.put, Sm.Env.asg, getS, getM, startS, isCopy, lendC, backC, M.isHole, M.fz, M.view, Slot.cont, gN, gT, gsC, gsN, Sm.Env.wipe, Sm.Env.rest, wipeS, restS, cSl, asI, isLst, gApp, cMut, cPar, cPar3, cAsgG, LcOk, ForOk, RetOk, LcR, cLc, iSeq, itemsM, seqOf, gTupM, gLstM, valsOf, isi_int, isi_bool, isi_tup, isi_lst, len_tup, len_list, len_lst, g_sub, g_neg, g_add, g_lt, g_gt, g_le, g_ge, eq_int, ne_int, isN_int, isN_none, notN_int, notN_none, isN_tup, notN_tup, truD, hd, hs, hlen, hlt]
theorem k05_2 (G : Good ps ls gl) : bl_law_2 C (E05 T s j2 j3 j4 j5 j6 j7 j8 (.own (vv (.list ((wayOf ps ls gl).map eDd)))) j10 j11 (.own .hole) j13) = .nx (E05 T s j2 j3 j4 j5 j6 j7 j8 (.own (vv (.list ((wayOf ps ls gl).map eDd)))) (.own (vv (.list ((booksD (wayOf ps ls gl)).map nI)))) j11 (.own .hole) j13) := by
  have hw := way_short G
  have hB : (booksD (wayOf ps ls gl)).map nI = (wayOf ps ls gl).map fun d => nI d.1 := by unfold booksD; rw [List.map_map]; rfl
  rw [hB]
  unfold bl_law_2
  generalize wayOf ps ls gl = W at *
  simp [def0, cRet, cAndV, cNotV, cOp, cC, cV, cChain, cOrV, cOrT, cCall, cIfS, cNx, cBad, cSeq, cSet, cB, cAnd, cOr, cNot, cIf, cFz, cExpr, cMov, cYes, RE.bind, RE.toS, RS.then, evA, evP, Sm.Env.get, Sm.Env.put, Sm.Env.asg, getS, getM, startS, isCopy, lendC, backC, M.isHole, M.fz, M.view, Slot.cont, gN, gT, gsC, gsN, Sm.Env.wipe, Sm.Env.rest, wipeS, restS, cSl, asI, isLst, gApp, cMut, cPar, cPar3, cAsgG, LcOk, ForOk, RetOk, LcR, cLc, iSeq, itemsM, seqOf, gTupM, gLstM, valsOf, isi_int, isi_bool, isi_tup, isi_lst, len_tup, len_list, len_lst, g_sub, g_neg, g_add, g_lt, g_gt, g_le, g_ge, eq_int, ne_int, isN_int, isN_none, notN_int, notN_none, isN_tup, notN_tup, truD]
  rw [lc_ofY (enc := eDd) (fun d => nI d.1) (fun d hd => by
    have i0 : gIx [.val (eDd d), .val (.int 0)] = some (.val (nI d.1)) := rfl
    generalize eDd d = dd at *
    simp [def0, cRet, cAndV, cNotV, cOp, cC, cV, cChain, cOrV, cOrT, cCall, cIfS, cNx, cBad, cSeq, cSet, cB, cAnd, cOr, cNot, cIf, cFz, cExpr, cMov, cYes, RE.bind, RE.toS, RS.then, evA, evP, Sm.Env.get, Sm.Env.put, Sm.Env.asg, getS, getM, startS, isCopy, lendC, backC, M.isHole, M.fz, M.view, Slot.cont, gN, gT, gsC, gsN, Sm.Env.wipe, Sm.Env.rest, wipeS, restS, cSl, asI, isLst, gApp, cMut, cPar, cPar3, cAsgG, LcOk, ForOk, RetOk, LcR, cLc, iSeq, itemsM, seqOf, gTupM, gLstM, valsOf, isi_int, isi_bool, isi_tup, isi_lst, len_tup, len_list, len_lst, g_sub, g_neg, g_add, g_lt, g_gt, g_le, g_ge, eq_int, ne_int, isN_int, isN_none, notN_int, notN_none, isN_tup, notN_tup, truD, i0]) (by omega)]
  simp [def0, cRet, cAndV, cNotV, cOp, cC, cV, cChain, cOrV, cOrT, cCall, cIfS, cNx, cBad, cSeq, cSet, cB, cAnd, cOr, cNot, cIf, cFz, cExpr, cMov, cYes, RE.bind, RE.toS, RS.then, evA, evP, Sm.Env.get, Sm.Env.put, Sm.Env.asg, getS, getM, startS, isCopy, lendC, backC, M.isHole, M.fz, M.view, Slot.cont, gN, gT, gsC, gsN, Sm.Env.wipe, Sm.Env.rest, wipeS, restS, cSl, asI, isLst, gApp, cMut, cPar, cPar3, cAsgG, LcOk, ForOk, RetOk, LcR, cLc, iSeq, itemsM, seqOf, gTupM, gLstM, valsOf, isi_int, isi_bool, isi_tup, isi_lst, len_tup, len_list, len_lst, g_sub, g_neg, g_add, g_lt, g_gt, g_le, g_ge, eq_int, ne_int, isN_int, isN_none, notN_int, notN_none, isN_tup, notN_tup, truD]
theorem count_nats (l : List Nat) (b : Nat) : gCount [.val (.list (l.map nI)), .val (nI b)] = some (.val (nI (l.count b))) := by
  have h0 : intsOf (l.map nI) = some (l.map fun n : Nat => (n : Int)) := intsOf_mapA (fun n : Nat => (n : Int)) l
  have h1 : ∀ l : List Nat, (l.map fun n : Nat => (n : Int)).count (b : Int) = l.count b := by
    intro l
    induction l with
    | nil => rfl
    | cons a l ih =>
      rw [List.map_cons, List.count_cons, List.count_cons, ih]
      congr 1
      by_cases z : a = b
      · subst z; simp
      · have : ¬ (a : Int) = (b : Int) := by omega
        simp [z, this]
  show (match (some (l.map nI)).bind intsOf with
    | some ns => some (M.val (.int (ns.count (b : Int) : Nat)))
    | none => none) = _
  rw [Option.bind_some, h0]
  dsimp only
  rw [h1]
theorem k05_3 (G : Good ps ls gl) (ha : barOf ps ls gl = .none) : bl_law_3 C (E05 T s j2 (.own (vv (eSh ps ls))) (.own (vv (eLots gl))) j5 j6 j7 j8 (.own (vv (.list ((wayOf ps ls gl).map eDd)))) (.own (vv (.list ((booksD (wayOf ps ls gl)).map nI)))) j11 j12 (.own .hole)) = .nx (E05 T s j2 (.own (vv (eSh ps ls))) (.own (vv (eLots gl))) j5 j6 j7 j8 (.own (vv (.list ((wayOf ps ls gl).map eDd)))) (.own (vv (.list ((booksD (wayOf ps ls gl)).map nI)))) j11 j12 (.own .hole)) := by
  have ho := bar_open.mp ha
  have hok := way_ok G.l G.g G.e ho
  have hws := way_short G
  have hj := e_judged (C := C) G (wayOf ps ls gl) hok (by omega)
  rw [way_leads G.l G.g G.e, way_cost G.l G.g, decide_eq_true rfl, Int.sub_self] at hj
  have hnd : (booksD (wayOf ps ls gl)).Nodup := (List.nodup_append.mp (way_nodup (ps := ps) G.l G.g)).1
  have hbl : (booksD (wayOf ps ls gl)).length ≤ 120 := by unfold booksD; rw [List.length_map]; exact hws
  have hcn := fun b => count_nats (booksD (wayOf ps ls gl)) b
  have hc1 : ∀ b, (booksD (wayOf ps ls gl)).count b ≤ 1 := fun b => List.nodup_iff_count.mp hnd b
  have hn0 : gNe [.lst [], .lst []] = some (.val (.bool false)) := by have := ne_lst []; simpa using this
  have ht : gNe [.val (.tuple [.bool true, .int 0]), .val (.tuple [.bool true, .int 0])] = some (.val (.bool false)) := rfl
  unfold bl_law_3
  generalize booksD (wayOf ps ls gl) = B at *
  generalize (wayOf ps ls gl).map eDd = W at *
  generalize eSh ps ls = S at *
  generalize eLots gl = GL at *
  have hiL : (lstOf (.val (.list (B.map nI)))).isSome = true := rfl
  simp [def0, cRet, cAndV, cNotV, cOp, cC, cV, cChain, cOrV, cOrT, cCall, cIfS, cNx, cBad, cSeq, cSet, cB, cAnd, cOr, cNot, cIf, cFz, cExpr, cMov, cYes, RE.bind, RE.toS, RS.then, evA, evP, Sm.Env.get, Sm.Env.put, Sm.Env.asg, getS, getM, startS, isCopy, lendC, backC, M.isHole, M.fz, M.view, Slot.cont, gN, gT, gsC, gsN, Sm.Env.wipe, Sm.Env.rest, wipeS, restS, cSl, asI, isLst, gApp, cMut, cPar, cPar3, cAsgG, LcOk, ForOk, RetOk, LcR, cLc, iSeq, itemsM, seqOf, gTupM, gLstM, valsOf, isi_int, isi_bool, isi_tup, isi_lst, len_tup, len_list, len_lst, g_sub, g_neg, g_add, g_lt, g_gt, g_le, g_ge, eq_int, ne_int, isN_int, isN_none, notN_int, notN_none, isN_tup, notN_tup, truD]
  rw [lc_of (fun _ => false) nI (fun b hb => by
    have h1 := hcn b
    have h2 := hc1 b
    have h3 : decide ((1 : Int) < (B.count b : Int)) = false := decide_eq_false (by omega)
    have h4 : (B.count b : Int) ≤ 1 := by omega
    generalize B.map nI = BL at *
    simp [def0, cRet, cAndV, cNotV, cOp, cC, cV, cChain, cOrV, cOrT, cCall, cIfS, cNx, cBad, cSeq, cSet, cB, cAnd, cOr, cNot, cIf, cFz, cExpr, cMov, cYes, RE.bind, RE.toS, RS.then, evA, evP, Sm.Env.get, Sm.Env.put, Sm.Env.asg, getS, getM, startS, isCopy, lendC, backC, M.isHole, M.fz, M.view, Slot.cont, gN, gT, gsC, gsN, Sm.Env.wipe, Sm.Env.rest, wipeS, restS, cSl, asI, isLst, gApp, cMut, cPar, cPar3, cAsgG, LcOk, ForOk, RetOk, LcR, cLc, iSeq, itemsM, seqOf, gTupM, gLstM, valsOf, isi_int, isi_bool, isi_tup, isi_lst, len_tup, len_list, len_lst, g_sub, g_neg, g_add, g_lt, g_gt, g_le, g_ge, eq_int, ne_int, isN_int, isN_none, notN_int, notN_none, isN_tup, notN_tup, truD, cMRv, hiL, lstOf, h1, h3, h4]) (by omega)]
  have hf : B.filter (fun _ => false) = [] := filter_none fun _ _ => rfl
  rw [hf]
  simp [def0, cRet, cAndV, cNotV, cOp, cC, cV, cChain, cOrV, cOrT, cCall, cIfS, cNx, cBad, cSeq, cSet, cB, cAnd, cOr, cNot, cIf, cFz, cExpr, cMov, cYes, RE.bind, RE.toS, RS.then, evA, evP, Sm.Env.get, Sm.Env.put, Sm.Env.asg, getS, getM, startS, isCopy, lendC, backC, M.isHole, M.fz, M.view, Slot.cont, gN, gT, gsC, gsN, Sm.Env.wipe, Sm.Env.rest, wipeS, restS, cSl, asI, isLst, gApp, cMut, cPar, cPar3, cAsgG, LcOk, ForOk, RetOk, LcR, cLc, iSeq, itemsM, seqOf, gTupM, gLstM, valsOf, isi_int, isi_bool, isi_tup, isi_lst, len_tup, len_list, len_lst, g_sub, g_neg, g_add, g_lt, g_gt, g_le, g_ge, eq_int, ne_int, isN_int, isN_none, notN_int, notN_none, isN_tup, notN_tup, truD, hn0, hj, ht]
theorem k05_4 (G : Good ps ls gl) : bl_law_4 C (E05 T s j2 (.own (vv (eSh ps ls))) (.own (vv (eLots gl))) j5 j6 j7 (.own (vv (.int (costOf ps ls gl)))) (.own (vv (.list ((wayOf ps ls gl).map eDd)))) j10 j11 j12 j13) = .nx (E05 T s j2 (.own (vv (eSh ps ls))) (.own (vv (eLots gl))) j5 j6 j7 (.own (vv (.int (costOf ps ls gl)))) (.own (vv (.list ((wayOf ps ls gl).map eDd)))) j10 j11 j12 j13) := by
  have hy := ix_sh1 ps ls
  have hq := eq_lots gl ls
  have hW := e_Ways (C := C) G
  by_cases h : gl = ls
  · rw [decide_eq_true h] at hq
    subst h
    have h1 := way_self G.pr G.l
    have h2 := cost_self G.pr G.l
    have h3 := ways_self G.pr G.l
    have h4 : barOf ps gl gl = .none := bar_open.mpr (Open.refl G.l)
    have h5 : numWays ps gl gl = 1 := by unfold numWays; rw [if_pos h4, h3]
    rw [h5] at hW
    rw [h1, h2]
    have ht : gNe [.val (.tuple [.int 0, .list [], .int 1]), .val (.tuple [.int 0, .list [], .int 1])] = some (.val (.bool false)) := rfl
    unfold bl_law_4
    generalize eSh ps gl = S at *
    generalize eLots gl = GL at *
    simp only [List.map_nil]
    simp [def0, cRet, cAndV, cNotV, cOp, cC, cV, cChain, cOrV, cOrT, cCall, cIfS, cNx, cBad, cSeq, cSet, cB, cAnd, cOr, cNot, cIf, cFz, cExpr, cMov, cYes, RE.bind, RE.toS, RS.then, evA, evP, Sm.Env.get, Sm.Env.put, Sm.Env.asg, getS, getM, startS, isCopy, lendC, backC, M.isHole, M.fz, M.view, Slot.cont, gN, gT, gsC, gsN, Sm.Env.wipe, Sm.Env.rest, wipeS, restS, cSl, asI, isLst, gApp, cMut, cPar, cPar3, cAsgG, LcOk, ForOk, RetOk, LcR, cLc, iSeq, itemsM, seqOf, gTupM, gLstM, valsOf, isi_int, isi_bool, isi_tup, isi_lst, len_tup, len_list, len_lst, g_sub, g_neg, g_add, g_lt, g_gt, g_le, g_ge, eq_int, ne_int, isN_int, isN_none, notN_int, notN_none, isN_tup, notN_tup, truD, hy, hq, hW, ht]
  · rw [decide_eq_false h] at hq
    unfold bl_law_4
    generalize (wayOf ps ls gl).map eDd = W at *
    generalize eSh ps ls = S at *
    generalize eLots gl = GL at *
    generalize eLots ls = LS at *
    simp [def0, cRet, cAndV, cNotV, cOp, cC, cV, cChain, cOrV, cOrT, cCall, cIfS, cNx, cBad, cSeq, cSet, cB, cAnd, cOr, cNot, cIf, cFz, cExpr, cMov, cYes, RE.bind, RE.toS, RS.then, evA, evP, Sm.Env.get, Sm.Env.put, Sm.Env.asg, getS, getM, startS, isCopy, lendC, backC, M.isHole, M.fz, M.view, Slot.cont, gN, gT, gsC, gsN, Sm.Env.wipe, Sm.Env.rest, wipeS, restS, cSl, asI, isLst, gApp, cMut, cPar, cPar3, cAsgG, LcOk, ForOk, RetOk, LcR, cLc, iSeq, itemsM, seqOf, gTupM, gLstM, valsOf, isi_int, isi_bool, isi_tup, isi_lst, len_tup, len_list, len_lst, g_sub, g_neg, g_add, g_lt, g_gt, g_le, g_ge, eq_int, ne_int, isN_int, isN_none, notN_int, notN_none, isN_tup, notN_tup, truD, hy, hq]
theorem k05_5 (G : Good ps ls gl) (ha : barOf ps ls gl = .none) : bl_law_5 C (E05 T s j2 (.own (vv (eSh ps ls))) (.own (vv (eLots gl))) j5 j6 j7 j8 j9 j10 j11 j12 j13) = .nx (E05 T s j2 (.own (vv (eSh ps ls))) (.own (vv (eLots gl))) j5 j6 j7 j8 j9 j10 (.own (prT (.int (costOf ps ls gl)) (((wayOf ps ls gl).map eDeed).map .d))) j12 j13) := by
  have h := e_leastO (C := C) G ha
  unfold bl_law_5
  generalize ((wayOf ps ls gl).map eDeed).map Tr.d = W at *
  generalize eSh ps ls = S at *
  generalize eLots gl = GL at *
  simp [def0, cRet, cAndV, cNotV, cOp, cC, cV, cChain, cOrV, cOrT, cCall, cIfS, cNx, cBad, cSeq, cSet, cB, cAnd, cOr, cNot, cIf, cFz, cExpr, cMov, cYes, RE.bind, RE.toS, RS.then, evA, evP, Sm.Env.get, Sm.Env.put, Sm.Env.asg, getS, getM, startS, isCopy, lendC, backC, M.isHole, M.fz, M.view, Slot.cont, gN, gT, gsC, gsN, Sm.Env.wipe, Sm.Env.rest, wipeS, restS, cSl, asI, isLst, gApp, cMut, cPar, cPar3, cAsgG, LcOk, ForOk, RetOk, LcR, cLc, iSeq, itemsM, seqOf, gTupM, gLstM, valsOf, isi_int, isi_bool, isi_tup, isi_lst, len_tup, len_list, len_lst, g_sub, g_neg, g_add, g_lt, g_gt, g_le, g_ge, eq_int, ne_int, isN_int, isN_none, notN_int, notN_none, isN_tup, notN_tup, truD, h]
theorem k05_6 {c : PyData} {ts : List Tr} (hz : ts.length < 16777216) : bl_law_6 C (E05 T s j2 j3 j4 j5 j6 j7 j8 j9 j10 (.own (prT c ts)) j12 j13) = .nx (E05 T s j2 j3 j4 j5 j6 j7 j8 j9 j10 (.own (prT c (ts ++ [.d (.tuple [.int 0, .int 0, .str "first"])]))) j12 j13) := by
  unfold bl_law_6
  have h : decide (ts.length < 16777216) = true := decide_eq_true hz
  show RE.toS (match decide (ts.length < 16777216) with
    | true => _
    | false => _) _ = _
  rw [h]
  rfl
theorem k05_7 (G : Good ps ls gl) (ha : barOf ps ls gl = .none) : bl_law_7 C (E05 T s j2 (.own (vv (eSh ps ls))) (.own (vv (eLots gl))) (.own (vv (eLeast ps ls gl))) j6 j7 j8 j9 j10 j11 j12 j13) = .nx (E05 T s j2 (.own (vv (eSh ps ls))) (.own (vv (eLots gl))) (.own (vv (eLeast ps ls gl))) j6 j7 j8 j9 j10 j11 j12 j13) := by
  have h := e_least (C := C) G
  have hc : cl 60 (eLeast ps ls gl) = true := by
    rw [least_open ha, cl_tup]
    have : cl 59 (.list ((wayOf ps ls gl).map eDd)) = true := cl_list eDd 58 _ fun d => cl_dd 57 d
    simp [cl_int, this]
  have hs := ne_same hc
  unfold bl_law_7
  generalize eLeast ps ls gl = U at *
  generalize eSh ps ls = S at *
  generalize eLots gl = GL at *
  simp [def0, cRet, cAndV, cNotV, cOp, cC, cV, cChain, cOrV, cOrT, cCall, cIfS, cNx, cBad, cSeq, cSet, cB, cAnd, cOr, cNot, cIf, cFz, cExpr, cMov, cYes, RE.bind, RE.toS, RS.then, evA, evP, Sm.Env.get, Sm.Env.put, Sm.Env.asg, getS, getM, startS, isCopy, lendC, backC, M.isHole, M.fz, M.view, Slot.cont, gN, gT, gsC, gsN, Sm.Env.wipe, Sm.Env.rest, wipeS, restS, cSl, asI, isLst, gApp, cMut, cPar, cPar3, cAsgG, LcOk, ForOk, RetOk, LcR, cLc, iSeq, itemsM, seqOf, gTupM, gLstM, valsOf, isi_int, isi_bool, isi_tup, isi_lst, len_tup, len_list, len_lst, g_sub, g_neg, g_add, g_lt, g_gt, g_le, g_ge, eq_int, ne_int, isN_int, isN_none, notN_int, notN_none, isN_tup, notN_tup, truD, h, hs]
theorem k05_12 (G : Good ps ls gl) : ∃ k8 k9 k10 k11 : Sm.Slot, bl_law_12 C (E05 T s j2 (.own (vv (eSh ps ls))) (.own (vv (eLots gl))) (.own (vv (eLeast ps ls gl))) (.own (vv (eFew ps ls gl))) j7 j8 j9 j10 j11 (.own .hole) (.own .hole)) = .nx (E05 T s j2 (.own (vv (eSh ps ls))) (.own (vv (eLots gl))) (.own (vv (eLeast ps ls gl))) (.own (vv (eFew ps ls gl))) j7 k8 k9 k10 k11 (.own .hole) (.own .hole)) := by
  have hnot := notN_least ps ls gl
  by_cases ha : barOf ps ls gl = .none
  · have h0 := k05_0 (C := C) (T := T) (s := s) (j2 := j2) (j3 := .own (vv (eSh ps ls))) (j4 := .own (vv (eLots gl))) (j6 := .own (vv (eFew ps ls gl))) (j7 := j7) (j8 := j8) (j9 := j9) (j10 := j10) (j11 := j11) (j12 := .own .hole) (j13 := .own .hole) ha
    have hws := way_short G
    refine ⟨.own (vv (.int (costOf ps ls gl))), .own (vv (.list ((wayOf ps ls gl).map eDd))), .own (vv (.list ((booksD (wayOf ps ls gl)).map nI))), .own (prT (.int (costOf ps ls gl)) ((((wayOf ps ls gl).map eDeed).map .d) ++ [.d (.tuple [.int 0, .int 0, .str "first"])])), ?_⟩
    rw [decide_eq_true ha] at hnot
    unfold bl_law_12
    have e1 : (cB (cOp gNotN [.v 5, .e (cC (.val .none))])) (E05 T s j2 (.own (vv (eSh ps ls))) (.own (vv (eLots gl))) (.own (vv (eLeast ps ls gl))) (.own (vv (eFew ps ls gl))) j7 j8 j9 j10 j11 (.own .hole) (.own .hole)) = .ok true (E05 T s j2 (.own (vv (eSh ps ls))) (.own (vv (eLots gl))) (.own (vv (eLeast ps ls gl))) (.own (vv (eFew ps ls gl))) j7 j8 j9 j10 j11 (.own .hole) (.own .hole)) := by
      generalize eLeast ps ls gl = U at *
      generalize eFew ps ls gl = V at *
      generalize eSh ps ls = S at *
      generalize eLots gl = GL at *
      simp [def0, cRet, cAndV, cNotV, cOp, cC, cV, cChain, cOrV, cOrT, cCall, cIfS, cNx, cBad, cSeq, cSet, cB, cAnd, cOr, cNot, cIf, cFz, cExpr, cMov, cYes, RE.bind, RE.toS, RS.then, evA, evP, Sm.Env.get, Sm.Env.put, Sm.Env.asg, getS, getM, startS, isCopy, lendC, backC, M.isHole, M.fz, M.view, Slot.cont, gN, gT, gsC, gsN, Sm.Env.wipe, Sm.Env.rest, wipeS, restS, cSl, asI, isLst, gApp, cMut, cPar, cPar3, cAsgG, LcOk, ForOk, RetOk, LcR, cLc, iSeq, itemsM, seqOf, gTupM, gLstM, valsOf, isi_int, isi_bool, isi_tup, isi_lst, len_tup, len_list, len_lst, g_sub, g_neg, g_add, g_lt, g_gt, g_le, g_ge, eq_int, ne_int, isN_int, isN_none, notN_int, notN_none, isN_tup, notN_tup, truD, hnot]
    dsimp only [cIfS]
    rw [e1]
    dsimp only [RE.toS, cSeq, RS.then]
    rw [h0]; dsimp only
    rw [k05_1 G ha]; dsimp only
    rw [k05_2 G]; dsimp only
    rw [k05_3 G ha]; dsimp only
    rw [k05_4 G]; dsimp only
    rw [k05_5 G ha]; dsimp only
    rw [k05_6 (by simp; omega)]; dsimp only
    exact k05_7 G ha
  · rw [decide_eq_false ha] at hnot
    refine ⟨j8, j9, j10, j11, ?_⟩
    unfold bl_law_12
    generalize eLeast ps ls gl = U at *
    generalize eFew ps ls gl = V at *
    generalize eSh ps ls = S at *
    generalize eLots gl = GL at *
    simp [def0, cRet, cAndV, cNotV, cOp, cC, cV, cChain, cOrV, cOrT, cCall, cIfS, cNx, cBad, cSeq, cSet, cB, cAnd, cOr, cNot, cIf, cFz, cExpr, cMov, cYes, RE.bind, RE.toS, RS.then, evA, evP, Sm.Env.get, Sm.Env.put, Sm.Env.asg, getS, getM, startS, isCopy, lendC, backC, M.isHole, M.fz, M.view, Slot.cont, gN, gT, gsC, gsN, Sm.Env.wipe, Sm.Env.rest, wipeS, restS, cSl, asI, isLst, gApp, cMut, cPar, cPar3, cAsgG, LcOk, ForOk, RetOk, LcR, cLc, iSeq, itemsM, seqOf, gTupM, gLstM, valsOf, isi_int, isi_bool, isi_tup, isi_lst, len_tup, len_list, len_lst, g_sub, g_neg, g_add, g_lt, g_gt, g_le, g_ge, eq_int, ne_int, isN_int, isN_none, notN_int, notN_none, isN_tup, notN_tup, truD, hnot]
theorem k05_13 (G : Good ps ls gl) : ∃ s' : DSt, bl_law_13 C (E05 T s j2 (.own (vv (eSh ps ls))) (.own (vv (eLots gl))) j5 j6 j7 j8 j9 j10 j11 j12 j13) = .nx (E05 T s' j2 (.own (vv (eSh ps ls))) (.own (vv (eLots gl))) j5 j6 j7 j8 j9 j10 j11 j12 j13) := by
  obtain ⟨s', h⟩ := e_w_judged_so (C := C) G s
  refine ⟨s', ?_⟩
  unfold bl_law_13
  generalize eSh ps ls = S at *
  generalize eLots gl = GL at *
  simp [def0, cRet, cAndV, cNotV, cOp, cC, cV, cChain, cOrV, cOrT, cCall, cIfS, cNx, cBad, cSeq, cSet, cB, cAnd, cOr, cNot, cIf, cFz, cExpr, cMov, cYes, RE.bind, RE.toS, RS.then, evA, evP, Sm.Env.get, Sm.Env.put, Sm.Env.asg, getS, getM, startS, isCopy, lendC, backC, M.isHole, M.fz, M.view, Slot.cont, gN, gT, gsC, gsN, Sm.Env.wipe, Sm.Env.rest, wipeS, restS, cSl, asI, isLst, gApp, cMut, cPar, cPar3, cAsgG, LcOk, ForOk, RetOk, LcR, cLc, iSeq, itemsM, seqOf, gTupM, gLstM, valsOf, isi_int, isi_bool, isi_tup, isi_lst, len_tup, len_list, len_lst, g_sub, g_neg, g_add, g_lt, g_gt, g_le, g_ge, eq_int, ne_int, isN_int, isN_none, notN_int, notN_none, isN_tup, notN_tup, truD, h]
theorem law_math (C : Str → Addr) (ns : List Int) (hl : ns.length ≤ 63) : ∃ e, d_law C [.val (.list (ns.map .int))] = .ok (.val (.bool true)) e := by
  obtain ⟨s, hs⟩ := e_start (C := C) ns
  have h3 : int1 [.val (.int 4)] = some 4 := int1_nat (n := 4) (by omega)
  have hr : rngD 0 (4 : Int).toNat = (List.range 4).map nI := rng0_map 4
  unfold d_law b_law
  simp [def0, cRet, cAndV, cNotV, cOp, cC, cV, cChain, cOrV, cOrT, cCall, cIfS, cNx, cBad, cSeq, cSet, cB, cAnd, cOr, cNot, cIf, cFz, cExpr, cMov, cYes, RE.bind, RE.toS, RS.then, evA, evP, Sm.Env.get, Sm.Env.put, Sm.Env.asg, getS, getM, startS, isCopy, lendC, backC, M.isHole, M.fz, M.view, Slot.cont, gN, gT, gsC, gsN, Sm.Env.wipe, Sm.Env.rest, wipeS, restS, cSl, asI, isLst, gApp, cMut, cPar, cPar3, cAsgG, LcOk, ForOk, RetOk, LcR, cLc, iSeq, itemsM, seqOf, gTupM, gLstM, valsOf, isi_int, isi_bool, isi_tup, isi_lst, len_tup, len_list, len_lst, g_sub, g_neg, g_add, g_lt, g_gt, g_le, g_ge, eq_int, ne_int, isN_int, isN_none, notN_int, notN_none, isN_tup, notN_tup, truD, hs, cFor, iRng1D, h3]
  generalize hF : forD _ _ _ _ = F
  have hF' : forD (gN 2) _ ((List.range 4).map nI) _ = F := hF
  obtain ⟨e', rfl, s2, j2, j3, j4, j5, j6, j7, j8, j9, j10, j11, rfl⟩ := for_at hF' (fun i e => ∃ (s2 : DSt) (j2 j3 j4 j5 j6 j7 j8 j9 j10 j11 : Sm.Slot), e = E05 (vv (.list (ns.map .int))) s2 j2 j3 j4 j5 j6 j7 j8 j9 j10 j11 (.own .hole) (.own .hole)) ⟨_, _, _, _, _, _, _, _, _, _, _, rfl⟩ (fun i hi e ⟨s2, j2, j3, j4, j5, j6, j7, j8, j9, j10, j11, he⟩ => by
    subst he
    generalize vv (.list (ns.map .int)) = T
    have g2 : ∀ d, gN 2 d (E05 T s2 j2 j3 j4 j5 j6 j7 j8 j9 j10 j11 (.own .hole) (.own .hole)) = some (E05 T s2 (.own (.val d)) j3 j4 j5 j6 j7 j8 j9 j10 j11 (.own .hole) (.own .hole)) := fun _ => rfl
    unfold ForOk
    rw [g2]
    generalize (Sm.Slot.own (M.val (nI (List.range 4)[i]))) = k2
    obtain ⟨s3, ps, ls, S, h0⟩ := k05_8 (C := C) (T := T) (s := s2) (j2 := k2) (j3 := j3) (j4 := j4) (j5 := j5) (j6 := j6) (j7 := j7) (j8 := j8) (j9 := j9) (j10 := j10) (j11 := j11) (j12 := .own .hole) (j13 := .own .hole)
    obtain ⟨s4, gl, G, h1⟩ := k05_9 (C := C) (T := T) (s := s3) (j2 := k2) (j4 := j4) (j5 := j5) (j6 := j6) (j7 := j7) (j8 := j8) (j9 := j9) (j10 := j10) (j11 := j11) (j12 := .own .hole) (j13 := .own .hole) S
    obtain ⟨k8, k9, k10, k11, h4⟩ := k05_12 (C := C) (T := T) (s := s4) (j2 := k2) (j7 := .own (vv (eBar (barOf ps ls gl)))) (j8 := j8) (j9 := j9) (j10 := j10) (j11 := j11) G
    obtain ⟨s5, h5⟩ := k05_13 (C := C) (T := T) (s := s4) (j2 := k2) (j5 := .own (vv (eLeast ps ls gl))) (j6 := .own (vv (eFew ps ls gl))) (j7 := .own (vv (eBar (barOf ps ls gl)))) (j8 := k8) (j9 := k9) (j10 := k10) (j11 := k11) (j12 := .own .hole) (j13 := .own .hole) G
    dsimp only [cSeq, RS.then]
    rw [h0]; dsimp only
    rw [h1]; dsimp only
    rw [k05_10 G]; dsimp only
    rw [k05_11 G]; dsimp only
    rw [h4]; dsimp only
    rw [h5]
    exact ⟨_, _, _, _, _, _, _, _, _, _, _, rfl⟩)
  simp [def0, cRet, cAndV, cNotV, cOp, cC, cV, cChain, cOrV, cOrT, cCall, cIfS, cNx, cBad, cSeq, cSet, cB, cAnd, cOr, cNot, cIf, cFz, cExpr, cMov, cYes, RE.bind, RE.toS, RS.then, evA, evP, Sm.Env.get, Sm.Env.put, Sm.Env.asg, getS, getM, startS, isCopy, lendC, backC, M.isHole, M.fz, M.view, Slot.cont, gN, gT, gsC, gsN, Sm.Env.wipe, Sm.Env.rest, wipeS, restS, cSl, asI, isLst, gApp, cMut, cPar, cPar3, cAsgG, LcOk, ForOk, RetOk, LcR, cLc, iSeq, itemsM, seqOf, gTupM, gLstM, valsOf, isi_int, isi_bool, isi_tup, isi_lst, len_tup, len_list, len_lst, g_sub, g_neg, g_add, g_lt, g_gt, g_le, g_ge, eq_int, ne_int, isN_int, isN_none, notN_int, notN_none, isN_tup, notN_tup, truD]
end
end Wk

namespace Wk
open PySem PySem.Spec PyProof.Rows L2 Sm
def top (i : Nat) : Stmt := PySem.Challenge.pw_pinshelf_k05_whole_ways_of_the_least_cos.main.body.getD i (.Pass ⟨0, 0, 0, 0⟩)
/-! ### is_number -/
abbrev s_is_number : Stmt := top 9
theorem sc_is_number : FnScope ["thing", "low", "high"] ["thing", "low", "high"] (defScope s_is_number) := ⟨rfl, rfl, rfl, by decide +kernel, rfl, by decide +kernel, by decide +kernel⟩
/-! ### is_price -/
abbrev s_is_price : Stmt := top 10
theorem sc_is_price : FnScope ["thing"] ["thing"] (defScope s_is_price) := ⟨rfl, rfl, rfl, by decide +kernel, rfl, by decide +kernel, by decide +kernel⟩
/-! ### Taker.__init__ -/
abbrev s_Taker_init : Stmt := inClass (top 11) 0
theorem sc_Taker_init : FnScope ["self", "many"] ["self", "many"] (defScope s_Taker_init) := ⟨rfl, rfl, rfl, by decide +kernel, rfl, by decide +kernel, by decide +kernel⟩
/-! ### Taker.takes -/
abbrev s_Taker_takes : Stmt := inClass (top 11) 1
theorem sc_Taker_takes : FnScope ["self", "lot", "book"] ["self", "lot"] (defScope s_Taker_takes) := ⟨rfl, rfl, rfl, by decide +kernel, rfl, by decide +kernel, by decide +kernel⟩
/-! ### Taker.lacking -/
abbrev s_Taker_lacking : Stmt := inClass (top 11) 2
theorem sc_Taker_lacking : FnScope ["self", "left", "book"] ["self"] (defScope s_Taker_lacking) := ⟨rfl, rfl, rfl, by decide +kernel, rfl, by decide +kernel, by decide +kernel⟩
/-! ### first_bad_price -/
abbrev s_first_bad_price : Stmt := top 12
theorem sc_first_bad_price : FnScope ["prices", "number", "price"] ["prices"] (defScope s_first_bad_price) := ⟨rfl, rfl, rfl, by decide +kernel, rfl, by decide +kernel, by decide +kernel⟩
/-! ### first_bad_lot -/
abbrev s_first_bad_lot : Stmt := top 13
theorem sc_first_bad_lot : FnScope ["taker", "lots", "most", "number", "lot"] ["taker", "lots", "most"] (defScope s_first_bad_lot) := ⟨rfl, rfl, rfl, by decide +kernel, rfl, by decide +kernel, by decide +kernel⟩
/-! ### need_shelf -/
abbrev s_need_shelf : Stmt := top 14
theorem sc_need_shelf : FnScope ["shelf", "wrong", "taker"] ["shelf"] (defScope s_need_shelf) := ⟨rfl, rfl, rfl, by decide +kernel, rfl, by decide +kernel, by decide +kernel⟩
/-! ### need_goal -/
abbrev s_need_goal : Stmt := top 15
theorem sc_need_goal : FnScope ["shelf", "goal", "many", "taker", "wrong"] ["shelf", "goal"] (defScope s_need_goal) := ⟨rfl, rfl, rfl, by decide +kernel, rfl, by decide +kernel, by decide +kernel⟩
/-! ### lot_of -/
abbrev s_lot_of : Stmt := top 16
theorem sc_lot_of : FnScope ["lots", "book", "number", "lot"] ["lots", "book"] (defScope s_lot_of) := ⟨rfl, rfl, rfl, by decide +kernel, rfl, by decide +kernel, by decide +kernel⟩
/-! ### fixed_in -/
abbrev s_fixed_in : Stmt := top 17
theorem sc_fixed_in : FnScope ["shelf", "lot", "book"] ["shelf", "lot"] (defScope s_fixed_in) := ⟨rfl, rfl, rfl, by decide +kernel, rfl, by decide +kernel, by decide +kernel⟩
/-! ### price_in -/
abbrev s_price_in : Stmt := top 18
theorem sc_price_in : FnScope ["shelf", "books", "book"] ["shelf", "books"] (defScope s_price_in) := ⟨rfl, rfl, rfl, by decide +kernel, rfl, by decide +kernel, by decide +kernel⟩
/-! ### fault_of -/
abbrev s_fault_of : Stmt := top 24
theorem sc_fault_of : FnScope ["shelf", "deed"] ["shelf", "deed"] (defScope s_fault_of) := ⟨rfl, rfl, rfl, by decide +kernel, rfl, by decide +kernel, by decide +kernel⟩
/-! ### placed -/
abbrev s_placed : Stmt := top 25
theorem sc_placed : FnScope ["lots", "deed", "book", "number", "end", "found", "lot", "one"] ["lots", "deed"] (defScope s_placed) := ⟨rfl, rfl, rfl, by decide +kernel, rfl, by decide +kernel, by decide +kernel⟩
/-! ### need_list -/
abbrev s_need_list : Stmt := top 26
theorem sc_need_list : FnScope ["deeds"] ["deeds"] (defScope s_need_list) := ⟨rfl, rfl, rfl, by decide +kernel, rfl, by decide +kernel, by decide +kernel⟩
/-! ### behind -/
abbrev s_behind : Stmt := top 27
theorem sc_behind : FnScope ["shelf", "deeds", "lots", "total", "number", "deed", "why"] ["shelf", "deeds"] (defScope s_behind) := ⟨rfl, rfl, rfl, by decide +kernel, rfl, by decide +kernel, by decide +kernel⟩
/-! ### done -/
abbrev s_done : Stmt := top 28
theorem sc_done : FnScope ["shelf", "deeds"] ["shelf", "deeds"] (defScope s_done) := ⟨rfl, rfl, rfl, by decide +kernel, rfl, by decide +kernel, by decide +kernel⟩
/-! ### standing -/
abbrev s_standing : Stmt := top 32
theorem sc_standing : FnScope ["lot", "goal", "places", "found", "first", "past", "ahead", "place", "book"] ["lot", "goal"] (defScope s_standing) := ⟨rfl, rfl, rfl, by decide +kernel, rfl, by decide +kernel, by decide +kernel⟩
/-! ### holding -/
abbrev s_holding : Stmt := top 33
theorem sc_holding : FnScope ["shelf", "number", "goal", "lot", "fixed", "found", "first", "past", "book"] ["shelf", "number", "goal"] (defScope s_holding) := ⟨rfl, rfl, rfl, by decide +kernel, rfl, by decide +kernel, by decide +kernel⟩
/-! ### greatest -/
abbrev s_greatest : Stmt := top 34
theorem sc_greatest : FnScope ["shelf", "number", "goal", "lot", "some", "most", "first", "past", "price", "stretch"] ["shelf", "number", "goal"] (defScope s_greatest) := ⟨rfl, rfl, rfl, by decide +kernel, rfl, by decide +kernel, by decide +kernel⟩
/-! ### longest -/
abbrev s_longest : Stmt := top 35
theorem sc_longest : FnScope ["shelf", "number", "goal", "lot", "some", "first", "past"] ["shelf", "number", "goal"] (defScope s_longest) := ⟨rfl, rfl, rfl, by decide +kernel, rfl, by decide +kernel, by decide +kernel⟩
/-! ### bar_of -/
abbrev s_bar_of : Stmt := top 36
theorem sc_bar_of : FnScope ["shelf", "goal", "book", "price", "number", "lot"] ["shelf", "goal"] (defScope s_bar_of) := ⟨rfl, rfl, rfl, by decide +kernel, rfl, by decide +kernel, by decide +kernel⟩
/-! ### barred -/
abbrev s_barred : Stmt := top 37
theorem sc_barred : FnScope ["shelf", "goal"] ["shelf", "goal"] (defScope s_barred) := ⟨rfl, rfl, rfl, by decide +kernel, rfl, by decide +kernel, by decide +kernel⟩
/-! ### Task.__init__ -/
abbrev s_Task_init : Stmt := inClass (top 39) 0
theorem sc_Task_init : FnScope ["self", "shelf", "goal", "number"] ["self", "shelf", "goal"] (defScope s_Task_init) := ⟨rfl, rfl, rfl, by decide +kernel, rfl, by decide +kernel, by decide +kernel⟩
/-! ### Task.may -/
abbrev s_Task_may : Stmt := inClass (top 39) 1
theorem sc_Task_may : FnScope ["self"] ["self"] (defScope s_Task_may) := ⟨rfl, rfl, rfl, by decide +kernel, rfl, by decide +kernel, by decide +kernel⟩
/-! ### Task.chosen -/
abbrev s_Task_chosen : Stmt := inClass (top 39) 2
theorem sc_Task_chosen : FnScope ["self", "number"] ["self", "number"] (defScope s_Task_chosen) := ⟨rfl, rfl, rfl, by decide +kernel, rfl, by decide +kernel, by decide +kernel⟩
/-! ### Task.cost -/
abbrev s_Task_cost : Stmt := inClass (top 39) 3
theorem sc_Task_cost : FnScope ["self", "total", "number", "lot", "first", "past"] ["self"] (defScope s_Task_cost) := ⟨rfl, rfl, rfl, by decide +kernel, rfl, by decide +kernel, by decide +kernel⟩
/-! ### Task.way -/
abbrev s_Task_way : Stmt := inClass (top 39) 4
theorem sc_Task_way : FnScope ["self", "found", "number", "lot", "first", "past", "book"] ["self"] (defScope s_Task_way) := ⟨rfl, rfl, rfl, by decide +kernel, rfl, by decide +kernel, by decide +kernel⟩
/-! ### Task.sides -/
abbrev s_Task_sides : Stmt := inClass (top 39) 5
theorem sc_Task_sides : FnScope ["self", "number", "many", "first", "past"] ["self", "number"] (defScope s_Task_sides) := ⟨rfl, rfl, rfl, by decide +kernel, rfl, by decide +kernel, by decide +kernel⟩
/-! ### blended -/
abbrev s_blended : Stmt := top 40
theorem sc_blended : FnScope ["one", "other", "found", "turn"] ["one", "other"] (defScope s_blended) := ⟨rfl, rfl, rfl, by decide +kernel, rfl, by decide +kernel, by decide +kernel⟩
/-! ### Task.ways -/
abbrev s_Task_ways : Stmt := inClass (top 39) 6
theorem sc_Task_ways : FnScope ["self", "level", "number", "later", "many", "count", "ahead", "behind_it", "more", "turns"] ["self"] (defScope s_Task_ways) := ⟨rfl, rfl, rfl, by decide +kernel, rfl, by decide +kernel, by decide +kernel⟩
/-! ### task_of -/
abbrev s_task_of : Stmt := top 41
theorem sc_task_of : FnScope ["shelf", "goal"] ["shelf", "goal"] (defScope s_task_of) := ⟨rfl, rfl, rfl, by decide +kernel, rfl, by decide +kernel, by decide +kernel⟩
/-! ### least -/
abbrev s_least : Stmt := top 42
theorem sc_least : FnScope ["shelf", "goal", "task"] ["shelf", "goal"] (defScope s_least) := ⟨rfl, rfl, rfl, by decide +kernel, rfl, by decide +kernel, by decide +kernel⟩
/-! ### fewest -/
abbrev s_fewest : Stmt := top 43
theorem sc_fewest : FnScope ["shelf", "goal", "task", "free", "price", "number"] ["shelf", "goal"] (defScope s_fewest) := ⟨rfl, rfl, rfl, by decide +kernel, rfl, by decide +kernel, by decide +kernel⟩
/-! ### ways -/
abbrev s_ways : Stmt := top 44
theorem sc_ways : FnScope ["shelf", "goal", "task"] ["shelf", "goal"] (defScope s_ways) := ⟨rfl, rfl, rfl, by decide +kernel, rfl, by decide +kernel, by decide +kernel⟩
/-! ### judged -/
abbrev s_judged : Stmt := top 45
theorem sc_judged : FnScope ["shelf", "goal", "deeds", "there", "cost"] ["shelf", "goal", "deeds"] (defScope s_judged) := ⟨rfl, rfl, rfl, by decide +kernel, rfl, by decide +kernel, by decide +kernel⟩
/-! ### _law_start -/
abbrev s_w_start : Stmt := top 47
theorem sc_w_start : FnScope ["_law_script", "_law_mixed", "_law_cell"] ["_law_script"] (defScope s_w_start) := ⟨rfl, rfl, rfl, by decide +kernel, rfl, by decide +kernel, by decide +kernel⟩
/-! ### _law_drawn -/
abbrev s_w_drawn : Stmt := top 48
theorem sc_w_drawn : FnScope ["_law_state", "_law_many", "_law_found", "_law_cell"] ["_law_state", "_law_many"] (defScope s_w_drawn) := ⟨rfl, rfl, rfl, by decide +kernel, rfl, by decide +kernel, by decide +kernel⟩
/-! ### _law_turned -/
abbrev s_w_turned : Stmt := top 49
theorem sc_w_turned : FnScope ["_law_state", "_law_many", "_law_left", "_law_found"] ["_law_state", "_law_many"] (defScope s_w_turned) := ⟨rfl, rfl, rfl, by decide +kernel, rfl, by decide +kernel, by decide +kernel⟩
/-! ### _law_lots -/
abbrev s_w_lots : Stmt := top 50
theorem sc_w_lots : FnScope ["_law_state", "_law_many", "_law_lots_here", "_law_found", "_law_book", "_law_k"] ["_law_state", "_law_many", "_law_lots_here"] (defScope s_w_lots) := ⟨rfl, rfl, rfl, by decide +kernel, rfl, by decide +kernel, by decide +kernel⟩
/-! ### _law_shelf -/
abbrev s_w_shelf : Stmt := top 51
theorem sc_w_shelf : FnScope ["_law_state", "_law_most", "_law_lots_here", "_law_many", "_law_dear", "_law_rare", "_law_prices", "_law_k"] ["_law_state", "_law_most", "_law_lots_here"] (defScope s_w_shelf) := ⟨rfl, rfl, rfl, by decide +kernel, rfl, by decide +kernel, by decide +kernel⟩
/-! ### _law_placed -/
abbrev s_w_placed : Stmt := top 52
theorem sc_w_placed : FnScope ["_law_lots_here", "_law_book", "_law_number", "_law_end", "_law_found", "_law_lot", "_law_one"] ["_law_lots_here", "_law_book", "_law_number", "_law_end"] (defScope s_w_placed) := ⟨rfl, rfl, rfl, by decide +kernel, rfl, by decide +kernel, by decide +kernel⟩
/-! ### _law_goal -/
abbrev s_w_goal : Stmt := top 53
theorem sc_w_goal : FnScope ["_law_state", "_law_shelf_here", "_law_prices", "_law_lots_here", "_law_way", "_law_turn", "_law_book", "_law_number"] ["_law_state", "_law_shelf_here"] (defScope s_w_goal) := ⟨rfl, rfl, rfl, by decide +kernel, rfl, by decide +kernel, by decide +kernel⟩
/-! ### _law_judged_so -/
abbrev s_w_judged_so : Stmt := top 54
theorem sc_w_judged_so : FnScope ["_law_state", "_law_shelf_here", "_law_goal_here", "_law_lots_here", "_law_deeds", "_law_k", "_law_book", "_law_number", "_law_end", "_law_there", "_law_cost", "_law_told"] ["_law_state", "_law_shelf_here", "_law_goal_here"] (defScope s_w_judged_so) := ⟨rfl, rfl, rfl, by decide +kernel, rfl, by decide +kernel, by decide +kernel⟩
/-! ### Task.way -/
/-! ### least -/
/-! ### law -/
abbrev s_law : Stmt := top 55
theorem sc_law : FnScope ["_law_script", "_law_state", "_law_turn", "_law_shelf_here", "_law_goal_here", "_law_told", "_law_few", "_law_bar", "_law_cost", "_law_way", "_law_books", "_law_again", "_law_deed", "_law_book"] ["_law_script"] (defScope s_law) := ⟨rfl, rfl, rfl, by decide +kernel, rfl, by decide +kernel, by decide +kernel⟩
/-- what the top has written -/
structure Txt (K : PySem.W.Frag) (mg : Str → Option Value) (C : Str → Addr) : Prop where
  n_all : mg "all" = none
  n_bool : mg "bool" = none
  n_enumerate : mg "enumerate" = none
  n_int : mg "int" = none
  n_isinstance : mg "isinstance" = none
  n_len : mg "len" = none
  n_list : mg "list" = none
  n_max : mg "max" = none
  n_range : mg "range" = none
  n_str : mg "str" = none
  n_sum : mg "sum" = none
  n_tuple : mg "tuple" = none
  k_FIRST : ∃ t, mg "FIRST" = some (.str "first" t)
  k_FIXED : ∃ t, mg "FIXED" = some (.str "fixed" t)
  k_FORM : ∃ t, mg "FORM" = some (.str "form" t)
  k_LAST : ∃ t, mg "LAST" = some (.str "last" t)
  k_LOT : ∃ t, mg "LOT" = some (.str "lot" t)
  k_MOST_BOOKS : ∃ t, mg "MOST_BOOKS" = some (.int (12) t)
  k_MOST_LOTS : ∃ t, mg "MOST_LOTS" = some (.int (5) t)
  k_MOST_PRICE : ∃ t, mg "MOST_PRICE" = some (.int (99) t)
  k_TURN : ∃ t, mg "TURN" = some (.str "turn" t)
  cl_Taker : Cls K (C "Taker")
  cl_Task : Cls K (C "Task")
  at_Taker_many : NoAttr K (C "Taker") "many"
  at_Taker_met : NoAttr K (C "Taker") "met"
  at_Task_runs : NoAttr K (C "Task") "runs"
  at_Task_wanted : NoAttr K (C "Task") "wanted"
  at_Task_wood : NoAttr K (C "Task") "wood"
  d_is_number : DefOf K mg "is_number" s_is_number
  d_is_price : DefOf K mg "is_price" s_is_price
  d_Taker_init : InitOf K mg "Taker" (C "Taker") "Taker.__init__" s_Taker_init
  d_Taker_takes : MethOf K (C "Taker") "takes" "Taker.takes" s_Taker_takes
  d_Taker_lacking : MethOf K (C "Taker") "lacking" "Taker.lacking" s_Taker_lacking
  d_first_bad_price : DefOf K mg "first_bad_price" s_first_bad_price
  d_first_bad_lot : DefOf K mg "first_bad_lot" s_first_bad_lot
  d_need_shelf : DefOf K mg "need_shelf" s_need_shelf
  d_need_goal : DefOf K mg "need_goal" s_need_goal
  d_lot_of : DefOf K mg "lot_of" s_lot_of
  d_fixed_in : DefOf K mg "fixed_in" s_fixed_in
  d_price_in : DefOf K mg "price_in" s_price_in
  d_fault_of : DefOf K mg "fault_of" s_fault_of
  d_placed : DefOf K mg "placed" s_placed
  d_need_list : DefOf K mg "need_list" s_need_list
  d_behind : DefOf K mg "behind" s_behind
  d_done : DefOf K mg "done" s_done
  d_standing : DefOf K mg "standing" s_standing
  d_holding : DefOf K mg "holding" s_holding
  d_greatest : DefOf K mg "greatest" s_greatest
  d_longest : DefOf K mg "longest" s_longest
  d_bar_of : DefOf K mg "bar_of" s_bar_of
  d_barred : DefOf K mg "barred" s_barred
  d_Task_init : InitOf K mg "Task" (C "Task") "Task.__init__" s_Task_init
  d_Task_may : MethOf K (C "Task") "may" "Task.may" s_Task_may
  d_Task_chosen : MethOf K (C "Task") "chosen" "Task.chosen" s_Task_chosen
  d_Task_cost : MethOf K (C "Task") "cost" "Task.cost" s_Task_cost
  d_Task_way : MethOf K (C "Task") "way" "Task.way" s_Task_way
  d_Task_sides : MethOf K (C "Task") "sides" "Task.sides" s_Task_sides
  d_blended : DefOf K mg "blended" s_blended
  d_Task_ways : MethOf K (C "Task") "ways" "Task.ways" s_Task_ways
  d_task_of : DefOf K mg "task_of" s_task_of
  d_least : DefOf K mg "least" s_least
  d_fewest : DefOf K mg "fewest" s_fewest
  d_ways : DefOf K mg "ways" s_ways
  d_judged : DefOf K mg "judged" s_judged
  d_w_start : DefOf K mg "_law_start" s_w_start
  d_w_drawn : DefOf K mg "_law_drawn" s_w_drawn
  d_w_turned : DefOf K mg "_law_turned" s_w_turned
  d_w_lots : DefOf K mg "_law_lots" s_w_lots
  d_w_shelf : DefOf K mg "_law_shelf" s_w_shelf
  d_w_placed : DefOf K mg "_law_placed" s_w_placed
  d_w_goal : DefOf K mg "_law_goal" s_w_goal
  d_w_judged_so : DefOf K mg "_law_judged_so" s_w_judged_so
  d_law : DefOf K mg "law" s_law
variable {P : Program} {w : World} {K : PySem.W.Frag} {mg : Str → Option Value} {base : Heap} {C : Str → Addr}
theorem c_is_number (T : Txt K mg C) : Cal P w K mg base CX0 1 "is_number" ["thing", "low", "high"] (SpOf K 3 (d_is_number C)) := by
  obtain ⟨f, fd, hm, F⟩ := T.d_is_number
  refine ⟨f, fd, F.ok (CX := CX0) sc_is_number (fun vs H Q E h => h.1) (fun cdv A outer s H vs Q E hr h => ?_), hm, F.kp, F.bindsN fun _ _ _ _ _ _ us hl => match us, hl with | [_, _, _], _ => rfl⟩
  refine ⟨_, PSs.nox (pss_one (ps_ret (pe_and (pe_callB (call_isiK (K := K)) (by rfl) T.n_isinstance (by decide +kernel) (pa_cons (pv 0) (pa_cons (pe_bltn (v := .ty "int") (by rfl) T.n_int (by decide +kernel) rfl) pa_nil))) (pe_and (pe_not (pe_callB (call_isiK (K := K)) (by rfl) T.n_isinstance (by decide +kernel) (pa_cons (pv 0) (pa_cons (pe_bltn (v := .ty "bool") (by rfl) T.n_bool (by decide +kernel) rfl) pa_nil)))) (pe_one (pe_chain op_le op_le (pv 1) (pv 0) (pv 2))))))), ?_⟩
  exact sim_def0 (body := b_is_number C) (ss_ret (se_and (se_cb p_isi (sa_v (sa_e se_raw sa_nil))) (se_and (se_not (se_cb p_isi (sa_v (sa_e se_raw sa_nil)))) (se_chain se_v se_v se_v)))) rfl h
theorem c_is_price (T : Txt K mg C) : Cal P w K mg base CX0 2 "is_price" ["thing"] (SpOf K 1 (d_is_price C)) := by
  obtain ⟨f, fd, hm, F⟩ := T.d_is_price
  obtain ⟨f0, fd0, G0, m0, k0, b0⟩ := (c_is_number (P := P) (w := w) (base := base) T).ex
  refine ⟨f, fd, F.ok (CX := CX0) sc_is_price (fun vs H Q E h => h.1) (fun cdv A outer s H vs Q E hr h => ?_), hm, F.kp, F.bindsN fun _ _ _ _ _ _ us hl => match us, hl with | [_], _ => rfl⟩
  refine ⟨_, PSs.nox (pss_one (ps_ret (pe_or (pe_cmpR op_isN (pv 0) pe_non (nomark _)) (pe_one (pe_call G0 (hr.mono (by decide)) rfl m0 k0 b0 .nil pass0 (pa_cons (pv 0) (pa_cons pe_int (pa_cons (pe_glob (v := .int 99) rfl T.k_MOST_PRICE.choose_spec ⟨_, rfl⟩) pa_nil)))))))), ?_⟩
  exact sim_def0 (body := b_is_price C) (ss_ret (se_or (se_op p_isN (sa_v (sa_e se_non sa_nil))) (se_call (sa_v (sa_e se_int (sa_e se_int sa_nil)))))) rfl h
theorem c_Taker_init (T : Txt K mg C) : CalI P w K mg base CX0 1 "Taker" (C "Taker") ["self", "many"] (SpOf K 2 (d_Taker_init C)) := by
  obtain ⟨f, fd, hM, hm, F⟩ := T.d_Taker_init
  refine ⟨f, fd, F.ok (CX := CX0) sc_Taker_init (fun vs H Q E h => h.1) (fun cdv A outer s H vs Q E hr h => ?_), hM, hm, F.bindsN fun _ _ _ _ _ _ us hl => match us, hl with | [_, _], _ => rfl⟩
  refine ⟨_, PSs.nox (pss_cons (ps_fld (pv 0) (pv 1) rfl)
    (pss_one (ps_fld (pv 0) pe_dnewK rfl))), ?_⟩
  exact sim_def0 (body := b_Taker_init C) (ss_seq (ss_setF T.cl_Taker T.at_Taker_many se_v)
    (ss_setF T.cl_Taker T.at_Taker_met se_dnew)) rfl h
theorem c_Taker_takes (T : Txt K mg C) : CalM P w K mg base CX0 2 (C "Taker") "takes" ["self", "lot"] (SpOf K 2 (d_Taker_takes C)) := by
  obtain ⟨f, fd, hm, F⟩ := T.d_Taker_takes
  obtain ⟨f0, fd0, G0, m0, k0, b0⟩ := (c_is_number (P := P) (w := w) (base := base) T).ex
  refine ⟨f, fd, F.ok (CX := CX0) sc_Taker_takes (fun vs H Q E h => h.1) (fun cdv A outer s H vs Q E hr h => ?_), hm, F.bindsN fun _ _ _ _ _ _ us hl => match us, hl with | [_, _], _ => rfl⟩
  refine ⟨_, PSs.nox (pss_cons (ps_if (pt_not (pt_val (pe_callB (call_isiK (K := K)) (by rfl) T.n_isinstance (by decide +kernel) (pa_cons (pv 1) (pa_cons (pe_bltn (v := .ty "tuple") (by rfl) T.n_tuple (by decide +kernel) rfl) pa_nil))))) (pss_one (ps_ret pe_bl)) pss_nil)
    (pss_cons (ps_for PassesOwn.never rfl (pi_seqK (K := K) (pv 1)) (pg_name (i := 2) sc_Taker_takes.nd rfl (.inl rfl)) (pss_cons (ps_if (PW.pt (pw_or (pt_not (pt_val (pe_call G0 (hr.mono (by decide)) rfl m0 k0 b0 .nil pass0 (pa_cons (pv 2) (pa_cons pe_int (pa_cons (pe_op op_sub (pe_fldK (K := K) (pv 0) rfl) pe_int) pa_nil)))))) (pw_or1 (pt_cmp (pc_din (hu_of hr) (pv 2) (pe_fldK (K := K) (pv 0) rfl)) rfl)))) (pss_one (ps_ret pe_bl)) pss_nil)
    (pss_one (ps_dput (hu_of hr) (pe_fldK (K := K) (pv 0) rfl) (pv 2) pe_bl rfl))))
    (pss_one (ps_ret pe_bl)))), ?_⟩
  exact sim_def0 (body := b_Taker_takes C) (ss_seq (ss_if (st_not (st_val (se_cb p_isi (sa_v (sa_e se_raw sa_nil))))) (ss_ret se_bl) ss_nx)
    (ss_seq (ss_for (si_seqU se_v) sg_name (ss_seq (ss_if (st_or (st_not (st_val (se_call (sa_v (sa_e se_int (sa_e (se_op p_I0 (sa_e (se_fld T.cl_Taker T.at_Taker_many) (sa_e se_int sa_nil))) sa_nil)))))) (st_val (se_dinF T.cl_Taker T.at_Taker_met se_v))) (ss_ret se_bl) ss_nx)
    (ss_dputF T.cl_Taker T.at_Taker_met se_bl)))
    (ss_ret se_bl))) rfl h
theorem c_Taker_lacking (T : Txt K mg C) : CalM P w K mg base CX0 1 (C "Taker") "lacking" ["self"] (SpOf K 1 (d_Taker_lacking C)) := by
  obtain ⟨f, fd, hm, F⟩ := T.d_Taker_lacking
  refine ⟨f, fd, F.ok (CX := CX0) sc_Taker_lacking (fun vs H Q E h => h.1) (fun cdv A outer s H vs Q E hr h => ?_), hm, F.bindsN fun _ _ _ _ _ _ us hl => match us, hl with | [_], _ => rfl⟩
  refine ⟨_, PSs.nox (pss_cons (ps_setLc (i := 1) (own := [("book", 2)]) (by rfl) sc_Taker_lacking.nd rfl rfl (sw_true rfl rfl rfl (by rfl)) (pi_range1 (by rfl) T.n_range (pa_cons (pe_fldK (K := K) (pv 0) rfl) pa_nil)) (blkOk_by (by rfl)) (fun _ _ _ _ _ => (pg_name (i := 2) sc_Taker_lacking.nd rfl (.inl rfl))) (fun _ _ _ _ _ => (pts_one (pt_cmp (pc_dnotin (hu_of hr) (pv 2) (pe_fldK (K := K) (pv 0) rfl)) rfl))) (fun _ _ _ _ _ => (pv 2)))
    (pss_one (ps_ret (pe_ifExp (pt_cmpR (op_neK (K := K) hr.units) (pv 1) (pe_lst pa_nil) (nomark _)) (pe_ix (ix_K (K := K)) (pv 1) pe_int (fun _ _ => rfl)) pe_non)))), ?_⟩
  exact sim_def0 (body := b_Taker_lacking C) (ss_seq (ss_set (se_fz (se_lc (own := [2]) (si_rng1 (sa_e (se_fld T.cl_Taker T.at_Taker_many) sa_nil)) sgo_name (st_val (se_dnotinF T.cl_Taker T.at_Taker_met se_v)) se_v)))
    (ss_ret (se_if (st_test (se_op p_ne (sa_v (sa_e (se_lst sa_nil (Nat.le_of_ble_eq_true rfl)) sa_nil)))) (se_op p_ix (sa_v (sa_e se_int sa_nil))) se_non))) rfl h
theorem c_first_bad_price (T : Txt K mg C) : Cal P w K mg base CX0 3 "first_bad_price" ["prices"] (SpOf K 1 (d_first_bad_price C)) := by
  obtain ⟨f, fd, hm, F⟩ := T.d_first_bad_price
  obtain ⟨f0, fd0, G0, m0, k0, b0⟩ := (c_is_price (P := P) (w := w) (base := base) T).ex
  refine ⟨f, fd, F.ok (CX := CX0) sc_first_bad_price (fun vs H Q E h => h.1) (fun cdv A outer s H vs Q E hr h => ?_), hm, F.kp, F.bindsN fun _ _ _ _ _ _ us hl => match us, hl with | [_], _ => rfl⟩
  refine ⟨_, PSs.nox (pss_cons (ps_if (PW.pt (pw_or (pt_not (pt_val (pe_callB (call_isiK (K := K)) (by rfl) T.n_isinstance (by decide +kernel) (pa_cons (pv 0) (pa_cons (pe_bltn (v := .ty "tuple") (by rfl) T.n_tuple (by decide +kernel) rfl) pa_nil))))) (pw_or1 (pt_cmpR (op_eqK (K := K) hr.units) (pv 0) (pe_tupN pa_nil) (nomark _))))) (pss_one (ps_ret pe_int)) pss_nil)
    (pss_cons (ps_for PassesOwn.never rfl (pi_enumK (K := K) (by rfl) T.n_enumerate (pa_cons (pv 0) pa_nil)) (pg_tupK (K := K) (n := 2) rfl (pgs_cons (pg_name (i := 1) sc_first_bad_price.nd rfl (.inl rfl)) (pgs_cons (pg_name (i := 2) sc_first_bad_price.nd rfl (.inl rfl)) pgs_nil))) (pss_one (ps_if (PW.pt (pw_or (pt_cmpR (op_eqK (K := K) hr.units) (pv 1) (pe_glob (v := .int 12) rfl T.k_MOST_BOOKS.choose_spec ⟨_, rfl⟩) (nomark _)) (pw_or1 (pt_not (pt_val (pe_call G0 (hr.mono (by decide)) rfl m0 k0 b0 .nil pass0 (pa_cons (pv 2) pa_nil))))))) (pss_one (ps_ret (pv 1))) pss_nil)))
    (pss_one (ps_ret pe_non)))), ?_⟩
  exact sim_def0 (body := b_first_bad_price C) (ss_seq (ss_if (st_or (st_not (st_val (se_cb p_isi (sa_v (sa_e se_raw sa_nil))))) (st_test (se_op p_eq (sa_v (sa_e (se_tup sa_nil (Nat.le_of_ble_eq_true rfl)) sa_nil))))) (ss_ret se_int) ss_nx)
    (ss_seq (ss_for (si_enumU se_v) (sg_tup (sgs_cons (sgs_cons sgs_nil))) (ss_if (st_or (st_test (se_op p_eq (sa_v (sa_e se_int sa_nil)))) (st_not (st_val (se_call (sa_v sa_nil))))) (ss_ret se_v) ss_nx))
    (ss_ret se_non))) rfl h
theorem c_first_bad_lot (T : Txt K mg C) : Cal P w K mg base CX0 3 "first_bad_lot" ["taker", "lots", "most"] (SpOf K 3 (d_first_bad_lot C)) := by
  obtain ⟨f, fd, hm, F⟩ := T.d_first_bad_lot
  obtain ⟨f0, fd0, G0, m0, b0⟩ := (c_Taker_takes (P := P) (w := w) (base := base) T).ex
  refine ⟨f, fd, F.ok (CX := CX0) sc_first_bad_lot (fun vs H Q E h => h.1) (fun cdv A outer s H vs Q E hr h => ?_), hm, F.kp, F.bindsN fun _ _ _ _ _ _ us hl => match us, hl with | [_, _, _], _ => rfl⟩
  refine ⟨_, PSs.nox (pss_cons (ps_if (PW.pt (pw_or (pt_not (pt_val (pe_callB (call_isiK (K := K)) (by rfl) T.n_isinstance (by decide +kernel) (pa_cons (pv 1) (pa_cons (pe_bltn (v := .ty "tuple") (by rfl) T.n_tuple (by decide +kernel) rfl) pa_nil))))) (pw_or1 (pt_cmpR (op_eqK (K := K) hr.units) (pv 1) (pe_tupN pa_nil) (nomark _))))) (pss_one (ps_ret pe_int)) pss_nil)
    (pss_cons (ps_for PassesOwn.never rfl (pi_enumK (K := K) (by rfl) T.n_enumerate (pa_cons (pv 1) pa_nil)) (pg_tupK (K := K) (n := 2) rfl (pgs_cons (pg_name (i := 3) sc_first_bad_lot.nd rfl (.inl rfl)) (pgs_cons (pg_name (i := 4) sc_first_bad_lot.nd rfl (.inl rfl)) pgs_nil))) (pss_one (ps_if (PW.pt (pw_or (pt_cmpR (op_eqK (K := K) hr.units) (pv 3) (pv 2) (nomark _)) (pw_or1 (pt_not (pt_val (pe_meth (pv 0) T.cl_Taker m0 G0 (hr.mono (by decide)) b0 .nil pass0 (pa_cons (pv 4) pa_nil))))))) (pss_one (ps_ret (pv 3))) pss_nil)))
    (pss_one (ps_ret pe_non)))), ?_⟩
  exact sim_def0 (body := b_first_bad_lot C) (ss_seq (ss_if (st_or (st_not (st_val (se_cb p_isi (sa_v (sa_e se_raw sa_nil))))) (st_test (se_op p_eq (sa_v (sa_e (se_tup sa_nil (Nat.le_of_ble_eq_true rfl)) sa_nil))))) (ss_ret se_int) ss_nx)
    (ss_seq (ss_for (si_enumU se_v) (sg_tup (sgs_cons (sgs_cons sgs_nil))) (ss_if (st_or (st_test (se_op p_eq (sa_v (sa_v sa_nil)))) (st_not (st_val (se_meth (sa_v sa_nil))))) (ss_ret se_v) ss_nx))
    (ss_ret se_non))) rfl h
theorem c_need_shelf (T : Txt K mg C) : Cal P w K mg base CX0 4 "need_shelf" ["shelf"] (SpOf K 1 (d_need_shelf C)) := by
  obtain ⟨f, fd, hm, F⟩ := T.d_need_shelf
  obtain ⟨f0, fd0, G0, m0, k0, b0⟩ := (c_first_bad_price (P := P) (w := w) (base := base) T).ex
  obtain ⟨f1, fd1, G1, M1, m1, b1⟩ := (c_Taker_init (P := P) (w := w) (base := base) T).ex
  obtain ⟨f2, fd2, G2, m2, k2, b2⟩ := (c_first_bad_lot (P := P) (w := w) (base := base) T).ex
  obtain ⟨f3, fd3, G3, m3, b3⟩ := (c_Taker_lacking (P := P) (w := w) (base := base) T).ex
  refine ⟨f, fd, F.ok (CX := CX0) sc_need_shelf (fun vs H Q E h => h.1) (fun cdv A outer s H vs Q E hr h => ?_), hm, F.kp, F.bindsN fun _ _ _ _ _ _ us hl => match us, hl with | [_], _ => rfl⟩
  refine ⟨_, PSs.nox (pss_cons (ps_if (PW.pt (pw_or (pt_not (pt_val (pe_callB (call_isiK (K := K)) (by rfl) T.n_isinstance (by decide +kernel) (pa_cons (pv 0) (pa_cons (pe_bltn (v := .ty "tuple") (by rfl) T.n_tuple (by decide +kernel) rfl) pa_nil))))) (pw_or1 (pt_cmpR (op_neK (K := K) hr.units) (pe_callB (call_lenK (K := K)) (by rfl) T.n_len PySem.boot_len (pa_cons (pv 0) pa_nil)) pe_int (nomark _))))) (pss_one ps_never) pss_nil)
    (pss_cons (ps_set (i := 1) sc_need_shelf.nd rfl (Or.inl rfl) (pe_call G0 (hr.mono (by decide)) rfl m0 k0 b0 .nil pass0 (pa_cons (pe_ix (ix_K (K := K)) (pv 0) pe_int (fun _ _ => rfl)) pa_nil)))
    (pss_cons (ps_if (pt_cmpR op_notN (pv 1) pe_non (nomark _)) (pss_one ps_never) pss_nil)
    (pss_cons (ps_set (i := 2) sc_need_shelf.nd rfl (Or.inl rfl) (pe_make M1 G1 (hr.mono (by decide)) rfl m1 b1 .nil pass0 (pa_cons (pe_callB (call_lenK (K := K)) (by rfl) T.n_len PySem.boot_len (pa_cons (pe_ix (ix_K (K := K)) (pv 0) pe_int (fun _ _ => rfl)) pa_nil)) pa_nil)))
    (pss_cons (ps_set (i := 1) sc_need_shelf.nd rfl (Or.inl rfl) (pe_call G2 (hr.mono (by decide)) rfl m2 k2 b2 .nil pass0 (pa_cons (pv 2) (pa_cons (pe_ix (ix_K (K := K)) (pv 0) pe_int (fun _ _ => rfl)) (pa_cons (pe_glob (v := .int 5) rfl T.k_MOST_LOTS.choose_spec ⟨_, rfl⟩) pa_nil)))))
    (pss_cons (ps_if (pt_cmpR op_notN (pv 1) pe_non (nomark _)) (pss_one ps_never) pss_nil)
    (pss_one (ps_if (pt_cmpR op_notN (pe_meth0 (pv 2) T.cl_Taker m3 G3 (hr.mono (by decide)) b3 .nil pass0) pe_non (nomark _)) (pss_one ps_never) pss_nil)))))))), ?_⟩
  exact sim_def0 (body := b_need_shelf C) (ss_seq (ss_if (st_or (st_not (st_val (se_cb p_isi (sa_v (sa_e se_raw sa_nil))))) (st_test (se_op p_ne (sa_e (se_cb p_len (sa_v sa_nil)) (sa_e se_int sa_nil))))) ss_bad ss_nx)
    (ss_seq (ss_set (se_call (sa_e (se_op p_ix (sa_v (sa_e se_int sa_nil))) sa_nil)))
    (ss_seq (ss_if (st_test (se_op p_notN (sa_v (sa_e se_non sa_nil)))) ss_bad ss_nx)
    (ss_seq (ss_set (se_make (sa_e (se_cb p_len (sa_e (se_op p_ix (sa_v (sa_e se_int sa_nil))) sa_nil)) sa_nil)))
    (ss_seq (ss_set (se_call (sa_v (sa_e (se_op p_ix (sa_v (sa_e se_int sa_nil))) (sa_e se_int sa_nil)))))
    (ss_seq (ss_if (st_test (se_op p_notN (sa_v (sa_e se_non sa_nil)))) ss_bad ss_nx)
    (ss_if (st_test (se_op p_notN (sa_e (se_meth sa_nil) (sa_e se_non sa_nil)))) ss_bad ss_nx))))))) rfl h
theorem c_need_goal (T : Txt K mg C) : Cal P w K mg base CX0 4 "need_goal" ["shelf", "goal"] (SpOf K 2 (d_need_goal C)) := by
  obtain ⟨f, fd, hm, F⟩ := T.d_need_goal
  obtain ⟨f0, fd0, G0, M0, m0, b0⟩ := (c_Taker_init (P := P) (w := w) (base := base) T).ex
  obtain ⟨f1, fd1, G1, m1, k1, b1⟩ := (c_first_bad_lot (P := P) (w := w) (base := base) T).ex
  obtain ⟨f2, fd2, G2, m2, b2⟩ := (c_Taker_lacking (P := P) (w := w) (base := base) T).ex
  refine ⟨f, fd, F.ok (CX := CX0) sc_need_goal (fun vs H Q E h => h.1) (fun cdv A outer s H vs Q E hr h => ?_), hm, F.kp, F.bindsN fun _ _ _ _ _ _ us hl => match us, hl with | [_, _], _ => rfl⟩
  refine ⟨_, PSs.nox (pss_cons (ps_set (i := 2) sc_need_goal.nd rfl (Or.inl rfl) (pe_callB (call_lenK (K := K)) (by rfl) T.n_len PySem.boot_len (pa_cons (pe_ix (ix_K (K := K)) (pv 0) pe_int (fun _ _ => rfl)) pa_nil)))
    (pss_cons (ps_set (i := 3) sc_need_goal.nd rfl (Or.inl rfl) (pe_make M0 G0 (hr.mono (by decide)) rfl m0 b0 .nil pass0 (pa_cons (pe_callB (call_lenK (K := K)) (by rfl) T.n_len PySem.boot_len (pa_cons (pe_ix (ix_K (K := K)) (pv 0) pe_int (fun _ _ => rfl)) pa_nil)) pa_nil)))
    (pss_cons (ps_set (i := 4) sc_need_goal.nd rfl (Or.inl rfl) (pe_call G1 (hr.mono (by decide)) rfl m1 k1 b1 .nil pass0 (pa_cons (pv 3) (pa_cons (pv 1) (pa_cons (pv 2) pa_nil)))))
    (pss_cons (ps_if (pt_cmpR op_notN (pv 4) pe_non (nomark _)) (pss_one ps_never) pss_nil)
    (pss_cons (ps_if (pt_cmpR op_lt (pe_callB (call_lenK (K := K)) (by rfl) T.n_len PySem.boot_len (pa_cons (pv 1) pa_nil)) (pv 2) (nomark _)) (pss_one ps_never) pss_nil)
    (pss_one (ps_if (pt_cmpR op_notN (pe_meth0 (pv 3) T.cl_Taker m2 G2 (hr.mono (by decide)) b2 .nil pass0) pe_non (nomark _)) (pss_one ps_never) pss_nil))))))), ?_⟩
  exact sim_def0 (body := b_need_goal C) (ss_seq (ss_set (se_cb p_len (sa_e (se_op p_ix (sa_v (sa_e se_int sa_nil))) sa_nil)))
    (ss_seq (ss_set (se_make (sa_e (se_cb p_len (sa_e (se_op p_ix (sa_v (sa_e se_int sa_nil))) sa_nil)) sa_nil)))
    (ss_seq (ss_set (se_call (sa_v (sa_v (sa_v sa_nil)))))
    (ss_seq (ss_if (st_test (se_op p_notN (sa_v (sa_e se_non sa_nil)))) ss_bad ss_nx)
    (ss_seq (ss_if (st_test (se_op p_IB (sa_e (se_cb p_len (sa_v sa_nil)) (sa_v sa_nil)))) ss_bad ss_nx)
    (ss_if (st_test (se_op p_notN (sa_e (se_meth sa_nil) (sa_e se_non sa_nil)))) ss_bad ss_nx)))))) rfl h
theorem c_lot_of (T : Txt K mg C) : Cal P w K mg base CX0 1 "lot_of" ["lots", "book"] (SpOf K 2 (d_lot_of C)) := by
  obtain ⟨f, fd, hm, F⟩ := T.d_lot_of
  refine ⟨f, fd, F.ok (CX := CX0) sc_lot_of (fun vs H Q E h => h.1) (fun cdv A outer s H vs Q E hr h => ?_), hm, F.kp, F.bindsN fun _ _ _ _ _ _ us hl => match us, hl with | [_, _], _ => rfl⟩
  refine ⟨_, PSs.nox (pss_one (ps_ret (pe_ix (ix_K (K := K)) (pe_lc (own := [("number", 2), ("lot", 3)]) (by rfl) sc_lot_of.nd (pi_enumK (K := K) (by rfl) T.n_enumerate (pa_cons (pv 0) pa_nil)) (blkOk_by (by rfl)) (fun _ _ _ _ _ => (pg_tupK (K := K) (n := 2) rfl (pgs_cons (pg_name (i := 2) sc_lot_of.nd rfl (.inl rfl)) (pgs_cons (pg_name (i := 3) sc_lot_of.nd rfl (.inl rfl)) pgs_nil)))) (fun _ _ _ _ _ => (pts_one (pt_cmpR (op_inK (K := K)) (pv 1) (pv 3) (by rfl)))) (fun _ _ _ _ _ => (pv 2))) pe_int (fun _ _ => rfl)))), ?_⟩
  exact sim_def0 (body := b_lot_of C) (ss_ret (se_op p_ix (sa_e (se_lc (own := [2, 3]) (si_enumU se_v) (sgo_tup (sgso_cons (sgso_cons sgso_nil))) (st_test (se_op p_inU (sa_v (sa_v sa_nil)))) se_v) (sa_e se_int sa_nil)))) rfl h
theorem c_fixed_in (T : Txt K mg C) : Cal P w K mg base CX0 1 "fixed_in" ["shelf", "lot"] (SpOf K 2 (d_fixed_in C)) := by
  obtain ⟨f, fd, hm, F⟩ := T.d_fixed_in
  refine ⟨f, fd, F.ok (CX := CX0) sc_fixed_in (fun vs H Q E h => h.1) (fun cdv A outer s H vs Q E hr h => ?_), hm, F.kp, F.bindsN fun _ _ _ _ _ _ us hl => match us, hl with | [_, _], _ => rfl⟩
  refine ⟨_, PSs.nox (pss_one (ps_ret (pe_lc (own := [("book", 2)]) (by rfl) sc_fixed_in.nd (pi_seqK (K := K) (pv 1)) (blkOk_by (by rfl)) (fun _ _ _ _ _ => (pg_name (i := 2) sc_fixed_in.nd rfl (.inl rfl))) (fun _ _ _ _ _ => (pts_one (pt_cmpR op_isN (pe_ix (ix_K (K := K)) (pe_ix (ix_K (K := K)) (pv 0) pe_int (fun _ _ => rfl)) (pv 2) (fun _ _ => rfl)) pe_non (nomark _)))) (fun _ _ _ _ _ => (pv 2))))), ?_⟩
  exact sim_def0 (body := b_fixed_in C) (ss_ret (se_fz (se_lc (own := [2]) (si_seqU se_v) sgo_name (st_test (se_op p_isN (sa_e (se_op p_ix (sa_e (se_op p_ix (sa_v (sa_e se_int sa_nil))) (sa_v sa_nil))) (sa_e se_non sa_nil)))) se_v))) rfl h
theorem c_price_in (T : Txt K mg C) : Cal P w K mg base CX0 1 "price_in" ["shelf", "books"] (SpOf K 2 (d_price_in C)) := by
  obtain ⟨f, fd, hm, F⟩ := T.d_price_in
  refine ⟨f, fd, F.ok (CX := CX0) sc_price_in (fun vs H Q E h => h.1) (fun cdv A outer s H vs Q E hr h => ?_), hm, F.kp, F.bindsN fun _ _ _ _ _ _ us hl => match us, hl with | [_, _], _ => rfl⟩
  refine ⟨_, PSs.nox (pss_one (ps_ret (pe_callB (call_sumU (K := K) rfl) (by rfl) T.n_sum (by decide +kernel) (pa_cons (pe_lc (own := [("book", 2)]) (by rfl) sc_price_in.nd (pi_seqK (K := K) (pv 1)) (blkOk_by (by rfl)) (fun _ _ _ _ _ => (pg_name (i := 2) sc_price_in.nd rfl (.inl rfl))) (fun _ _ _ _ _ => pts_nil) (fun _ _ _ _ _ => (pe_orTK (K := K) (pe_ix (ix_K (K := K)) (pe_ix (ix_K (K := K)) (pv 0) pe_int (fun _ _ => rfl)) (pv 2) (fun _ _ => rfl)) (pe_one pe_int)))) pa_nil)))), ?_⟩
  exact sim_def0 (body := b_price_in C) (ss_ret (se_cb p_sumU (sa_e (se_lc (own := [2]) (si_seqU se_v) sgo_name st_yes (se_orT (se_op p_ix (sa_e (se_op p_ix (sa_v (sa_e se_int sa_nil))) (sa_v sa_nil))) se_int)) sa_nil))) rfl h
theorem c_fault_of (T : Txt K mg C) : Cal P w K mg base CX0 2 "fault_of" ["shelf", "deed"] (SpOf K 2 (d_fault_of C)) := by
  obtain ⟨f, fd, hm, F⟩ := T.d_fault_of
  obtain ⟨f0, fd0, G0, m0, k0, b0⟩ := (c_is_number (P := P) (w := w) (base := base) T).ex
  refine ⟨f, fd, F.ok (CX := CX0) sc_fault_of (fun vs H Q E h => h.1) (fun cdv A outer s H vs Q E hr h => ?_), hm, F.kp, F.bindsN fun _ _ _ _ _ _ us hl => match us, hl with | [_, _], _ => rfl⟩
  refine ⟨_, PSs.nox (pss_cons (ps_if (PW.pt (pw_or (pt_not (pt_val (pe_callB (call_isiK (K := K)) (by rfl) T.n_isinstance (by decide +kernel) (pa_cons (pv 1) (pa_cons (pe_bltn (v := .ty "tuple") (by rfl) T.n_tuple (by decide +kernel) rfl) pa_nil))))) (pw_or (pt_cmpR (op_neK (K := K) hr.units) (pe_callB (call_lenK (K := K)) (by rfl) T.n_len PySem.boot_len (pa_cons (pv 1) pa_nil)) pe_int (nomark _)) (pw_or1 (pt_not (pt_val (pe_call G0 (hr.mono (by decide)) rfl m0 k0 b0 .nil pass0 (pa_cons (pe_ix (ix_K (K := K)) (pv 1) pe_int (fun _ _ => rfl)) (pa_cons pe_int (pa_cons (pe_op op_sub (pe_callB (call_lenK (K := K)) (by rfl) T.n_len PySem.boot_len (pa_cons (pe_ix (ix_K (K := K)) (pv 0) pe_int (fun _ _ => rfl)) pa_nil)) pe_int) pa_nil)))))))))) (pss_one (ps_ret (pe_glob (v := .str "form") rfl T.k_FORM.choose_spec ⟨_, rfl⟩))) pss_nil)
    (pss_cons (ps_if (PW.pt (pw_or (pt_not (pt_val (pe_call G0 (hr.mono (by decide)) rfl m0 k0 b0 .nil pass0 (pa_cons (pe_ix (ix_K (K := K)) (pv 1) pe_int (fun _ _ => rfl)) (pa_cons pe_int (pa_cons (pe_op op_sub (pe_callB (call_lenK (K := K)) (by rfl) T.n_len PySem.boot_len (pa_cons (pe_ix (ix_K (K := K)) (pv 0) pe_int (fun _ _ => rfl)) pa_nil)) pe_int) pa_nil)))))) (pw_or (pt_not (pt_val (pe_callB (call_isiK (K := K)) (by rfl) T.n_isinstance (by decide +kernel) (pa_cons (pe_ix (ix_K (K := K)) (pv 1) pe_int (fun _ _ => rfl)) (pa_cons (pe_bltn (v := .ty "str") (by rfl) T.n_str (by decide +kernel) rfl) pa_nil))))) (pw_or1 (pt_cmpR (op_notInK (K := K)) (pe_ix (ix_K (K := K)) (pv 1) pe_int (fun _ _ => rfl)) (pe_tupN (pa_cons (pe_glob (v := .str "first") rfl T.k_FIRST.choose_spec ⟨_, rfl⟩) (pa_cons (pe_glob (v := .str "last") rfl T.k_LAST.choose_spec ⟨_, rfl⟩) pa_nil))) (by rfl)))))) (pss_one (ps_ret (pe_glob (v := .str "form") rfl T.k_FORM.choose_spec ⟨_, rfl⟩))) pss_nil)
    (pss_one (ps_ret (pe_ifExp (pt_cmpR op_isN (pe_ix (ix_K (K := K)) (pe_ix (ix_K (K := K)) (pv 0) pe_int (fun _ _ => rfl)) (pe_ix (ix_K (K := K)) (pv 1) pe_int (fun _ _ => rfl)) (fun _ _ => rfl)) pe_non (nomark _)) (pe_glob (v := .str "fixed") rfl T.k_FIXED.choose_spec ⟨_, rfl⟩) pe_non))))), ?_⟩
  exact sim_def0 (body := b_fault_of C) (ss_seq (ss_if (st_or (st_not (st_val (se_cb p_isi (sa_v (sa_e se_raw sa_nil))))) (st_or (st_test (se_op p_ne (sa_e (se_cb p_len (sa_v sa_nil)) (sa_e se_int sa_nil)))) (st_not (st_val (se_call (sa_e (se_op p_ix (sa_v (sa_e se_int sa_nil))) (sa_e se_int (sa_e (se_op p_I0 (sa_e (se_cb p_len (sa_e (se_op p_ix (sa_v (sa_e se_int sa_nil))) sa_nil)) (sa_e se_int sa_nil))) sa_nil)))))))) (ss_ret se_str) ss_nx)
    (ss_seq (ss_if (st_or (st_not (st_val (se_call (sa_e (se_op p_ix (sa_v (sa_e se_int sa_nil))) (sa_e se_int (sa_e (se_op p_I0 (sa_e (se_cb p_len (sa_e (se_op p_ix (sa_v (sa_e se_int sa_nil))) sa_nil)) (sa_e se_int sa_nil))) sa_nil)))))) (st_or (st_not (st_val (se_cb p_isi (sa_e (se_op p_ix (sa_v (sa_e se_int sa_nil))) (sa_e se_raw sa_nil))))) (st_test (se_op p_notInU (sa_e (se_op p_ix (sa_v (sa_e se_int sa_nil))) (sa_e (se_tup (sa_e se_str (sa_e se_str sa_nil)) (Nat.le_of_ble_eq_true rfl)) sa_nil)))))) (ss_ret se_str) ss_nx)
    (ss_ret (se_if (st_test (se_op p_isN (sa_e (se_op p_ix (sa_e (se_op p_ix (sa_v (sa_e se_int sa_nil))) (sa_e (se_op p_ix (sa_v (sa_e se_int sa_nil))) sa_nil))) (sa_e se_non sa_nil)))) se_str se_non)))) rfl h
theorem c_placed (T : Txt K mg C) : Cal P w K mg base CX0 1 "placed" ["lots", "deed"] (SpOf K 2 (d_placed C)) := by
  obtain ⟨f, fd, hm, F⟩ := T.d_placed
  refine ⟨f, fd, F.ok (CX := CX0) sc_placed (fun vs H Q E h => h.1) (fun cdv A outer s H vs Q E hr h => ?_), hm, F.kp, F.bindsN fun _ _ _ _ _ _ us hl => match us, hl with | [_, _], _ => rfl⟩
  refine ⟨_, PSs.nox (pss_cons (ps_asg (pv 1) (pg_tupK (K := K) (n := 3) rfl (pgs_cons (pg_name (i := 2) sc_placed.nd rfl (.inr rfl)) (pgs_cons (pg_name (i := 3) sc_placed.nd rfl (.inl rfl)) (pgs_cons (pg_name (i := 4) sc_placed.nd rfl (.inl rfl)) pgs_nil)))))
    (pss_cons (ps_setLc (i := 5) (own := [("lot", 6)]) (by rfl) sc_placed.nd rfl rfl (sw_true rfl rfl rfl (by rfl)) (pi_seqK (K := K) (pv 0)) (blkOk_by (by rfl)) (fun _ _ _ _ _ => (pg_name (i := 6) sc_placed.nd rfl (.inl rfl))) (fun _ _ _ _ _ => pts_nil) (fun _ _ _ _ _ => (pe_callTy (call_tupleK (K := K)) (by rfl) T.n_tuple (by decide +kernel) (pa_cons (pe_lc (own := [("one", 7)]) (by rfl) sc_placed.nd (pi_seqK (K := K) (pv 6)) (blkOk_by (by rfl)) (fun _ _ _ _ _ => (pg_name (i := 7) sc_placed.nd rfl (.inl rfl))) (fun _ _ _ _ _ => (pts_one (pt_cmpR (op_neK (K := K) hr.units) (pv 7) (pv 2) (nomark _)))) (fun _ _ _ _ _ => (pv 7))) pa_nil))))
    (pss_cons (ps_asg (pe_ifExp (pt_cmpR (op_eqK (K := K) hr.units) (pv 4) (pe_glob (v := .str "first") rfl T.k_FIRST.choose_spec ⟨_, rfl⟩) (nomark _)) (pe_op (op_addK (K := K)) (pe_tupN (pa_cons (pv 2) pa_nil)) (pe_ix (ix_K (K := K)) (pv 5) (pv 3) (fun _ _ => rfl))) (pe_op (op_addK (K := K)) (pe_ix (ix_K (K := K)) (pv 5) (pv 3) (fun _ _ => rfl)) (pe_tupN (pa_cons (pv 2) pa_nil)))) (pg_sub (pv 5) (pv 3) set_list))
    (pss_one (ps_ret (pe_callTy (call_tupleK (K := K)) (by rfl) T.n_tuple (by decide +kernel) (pa_cons (pv 5) pa_nil))))))), ?_⟩
  exact sim_def0 (body := b_placed C) (ss_seq (ss_asgG se_v (sg_tup (sgs_cons (sgs_cons (sgs_cons sgs_nil)))))
    (ss_seq (ss_set (se_lc (own := [6]) (si_seqU se_v) sgo_name st_yes (se_cb p_tuple (sa_e (se_lc (own := [7]) (si_seqU se_v) sgo_name (st_test (se_op p_ne (sa_v (sa_v sa_nil)))) se_v) sa_nil))))
    (ss_seq (ss_setIx (se_fz (se_if (st_test (se_op p_eq (sa_v (sa_e se_str sa_nil)))) (se_fz (se_op p_addU (sa_e (se_tup (sa_v sa_nil) (Nat.le_of_ble_eq_true rfl)) (sa_e (se_op p_ix (sa_v (sa_v sa_nil))) sa_nil)))) (se_fz (se_op p_addU (sa_e (se_op p_ix (sa_v (sa_v sa_nil))) (sa_e (se_tup (sa_v sa_nil) (Nat.le_of_ble_eq_true rfl)) sa_nil)))))) se_v)
    (ss_ret (se_cb p_tuple (sa_v sa_nil)))))) rfl h
theorem c_need_list (T : Txt K mg C) : Cal P w K mg base CX0 1 "need_list" ["deeds"] (SpOf K 1 (d_need_list C)) := by
  obtain ⟨f, fd, hm, F⟩ := T.d_need_list
  refine ⟨f, fd, F.ok (CX := CX0) sc_need_list (fun vs H Q E h => h.1) (fun cdv A outer s H vs Q E hr h => ?_), hm, F.kp, F.bindsN fun _ _ _ _ _ _ us hl => match us, hl with | [_], _ => rfl⟩
  refine ⟨_, PSs.nox (pss_one (ps_if (pt_not (pt_val (pe_callB (call_isiK (K := K)) (by rfl) T.n_isinstance (by decide +kernel) (pa_cons (pv 0) (pa_cons (pe_bltn (v := .ty "list") (by rfl) T.n_list (by decide +kernel) rfl) pa_nil))))) (pss_one ps_never) pss_nil)), ?_⟩
  exact sim_def0 (body := b_need_list C) (ss_if (st_not (st_val (se_cb p_isi (sa_v (sa_e se_raw sa_nil))))) ss_bad ss_nx) rfl h
theorem c_behind (T : Txt K mg C) : Cal P w K mg base CX0 3 "behind" ["shelf", "deeds"] (SpOf K 2 (d_behind C)) := by
  obtain ⟨f, fd, hm, F⟩ := T.d_behind
  obtain ⟨f0, fd0, G0, m0, k0, b0⟩ := (c_fault_of (P := P) (w := w) (base := base) T).ex
  obtain ⟨f1, fd1, G1, m1, k1, b1⟩ := (c_placed (P := P) (w := w) (base := base) T).ex
  refine ⟨f, fd, F.ok (CX := CX0) sc_behind (fun vs H Q E h => h.1) (fun cdv A outer s H vs Q E hr h => ?_), hm, F.kp, F.bindsN fun _ _ _ _ _ _ us hl => match us, hl with | [_, _], _ => rfl⟩
  refine ⟨_, PSs.nox (pss_cons (ps_par (i := 2) (j := 3) (by rfl) sc_behind.nd rfl rfl (by decide) rfl rfl (pa_cons (pe_ix (ix_K (K := K)) (pv 0) pe_int (fun _ _ => rfl)) (pa_cons pe_int pa_nil)) (by rfl))
    (pss_cons (ps_for PassesOwn.never rfl (pi_enumK (K := K) (by rfl) T.n_enumerate (pa_cons (pv 1) pa_nil)) (pg_tupK (K := K) (n := 2) rfl (pgs_cons (pg_name (i := 4) sc_behind.nd rfl (.inl rfl)) (pgs_cons (pg_name (i := 5) sc_behind.nd rfl (.inl rfl)) pgs_nil))) (pss_cons (ps_set (i := 6) sc_behind.nd rfl (Or.inl rfl) (pe_call G0 (hr.mono (by decide)) rfl m0 k0 b0 .nil pass0 (pa_cons (pv 0) (pa_cons (pv 5) pa_nil))))
    (pss_cons (ps_if (pt_cmpR op_notN (pv 6) pe_non (nomark _)) (pss_one ps_never) pss_nil)
    (pss_cons (ps_set (i := 2) sc_behind.nd rfl (Or.inl rfl) (pe_call G1 (hr.mono (by decide)) rfl m1 k1 b1 .nil pass0 (pa_cons (pv 2) (pa_cons (pv 5) pa_nil))))
    (pss_one (ps_aug (i := 3) sc_behind.nd rfl (Or.inl rfl) (pe_ix (ix_K (K := K)) (pe_ix (ix_K (K := K)) (pv 0) pe_int (fun _ _ => rfl)) (pe_ix (ix_K (K := K)) (pv 5) pe_int (fun _ _ => rfl)) (fun _ _ => rfl)) ip_add))))))
    (pss_one (ps_ret (pe_tupN (pa_cons (pv 2) (pa_cons (pv 3) pa_nil))))))), ?_⟩
  exact sim_def0 (body := b_behind C) (ss_seq (ss_par (se_op p_ix (sa_v (sa_e se_int sa_nil))) se_int)
    (ss_seq (ss_for (si_enumU se_v) (sg_tup (sgs_cons (sgs_cons sgs_nil))) (ss_seq (ss_set (se_call (sa_v (sa_v sa_nil))))
    (ss_seq (ss_if (st_test (se_op p_notN (sa_v (sa_e se_non sa_nil)))) ss_bad ss_nx)
    (ss_seq (ss_set (se_call (sa_v (sa_v sa_nil))))
    (ss_aug (se_op p_ix (sa_e (se_op p_ix (sa_v (sa_e se_int sa_nil))) (sa_e (se_op p_ix (sa_v (sa_e se_int sa_nil))) sa_nil))))))))
    (ss_ret (se_tup (sa_v (sa_v sa_nil)) (Nat.le_of_ble_eq_true rfl))))) rfl h
theorem c_done (T : Txt K mg C) : Cal P w K mg base CX0 5 "done" ["shelf", "deeds"] (SpOf K 2 (d_done C)) := by
  obtain ⟨f, fd, hm, F⟩ := T.d_done
  obtain ⟨f0, fd0, G0, m0, k0, b0⟩ := (c_need_shelf (P := P) (w := w) (base := base) T).ex
  obtain ⟨f1, fd1, G1, m1, k1, b1⟩ := (c_need_list (P := P) (w := w) (base := base) T).ex
  obtain ⟨f2, fd2, G2, m2, k2, b2⟩ := (c_behind (P := P) (w := w) (base := base) T).ex
  refine ⟨f, fd, F.ok (CX := CX0) sc_done (fun vs H Q E h => h.1) (fun cdv A outer s H vs Q E hr h => ?_), hm, F.kp, F.bindsN fun _ _ _ _ _ _ us hl => match us, hl with | [_, _], _ => rfl⟩
  refine ⟨_, PSs.nox (pss_cons (ps_expr (pe_call G0 (hr.mono (by decide)) rfl m0 k0 b0 .nil pass0 (pa_cons (pv 0) pa_nil)))
    (pss_cons (ps_expr (pe_call G1 (hr.mono (by decide)) rfl m1 k1 b1 .nil pass0 (pa_cons (pv 1) pa_nil)))
    (pss_one (ps_ret (pe_call G2 (hr.mono (by decide)) rfl m2 k2 b2 .nil pass0 (pa_cons (pv 0) (pa_cons (pv 1) pa_nil))))))), ?_⟩
  exact sim_def0 (body := b_done C) (ss_seq (ss_expr (se_call (sa_v sa_nil)))
    (ss_seq (ss_expr (se_call (sa_v sa_nil)))
    (ss_ret (se_call (sa_v (sa_v sa_nil)))))) rfl h
theorem c_standing (T : Txt K mg C) : Cal P w K mg base CX0 1 "standing" ["lot", "goal"] (SpOf K 2 (d_standing C)) := by
  obtain ⟨f, fd, hm, F⟩ := T.d_standing
  refine ⟨f, fd, F.ok (CX := CX0) sc_standing (fun vs H Q E h => h.1) (fun cdv A outer s H vs Q E hr h => ?_), hm, F.kp, F.bindsN fun _ _ _ _ _ _ us hl => match us, hl with | [_, _], _ => rfl⟩
  refine ⟨_, PSs.nox (pss_cons (ps_setDc (i := 2) (own := [("place", 7), ("book", 8)]) (by rfl) sc_standing.nd rfl rfl (sw_trueD rfl rfl rfl (by rfl)) (pi_enumK (K := K) (by rfl) T.n_enumerate (pa_cons (pv 0) pa_nil)) (blkOk_by (by rfl)) (fun _ _ _ _ _ => (pg_tupK (K := K) (n := 2) rfl (pgs_cons (pg_name (i := 7) sc_standing.nd rfl (.inl rfl)) (pgs_cons (pg_name (i := 8) sc_standing.nd rfl (.inl rfl)) pgs_nil)))) (fun _ _ _ _ _ => pts_nil) (fun _ _ _ _ _ => (pv 8)) (fun _ _ _ _ _ => (pv 7)))
    (pss_cons (ps_set (i := 3) sc_standing.nd rfl (Or.inl rfl) (pe_lst pa_nil))
    (pss_cons (ps_for PassesOwn.never rfl (pi_range1 (by rfl) T.n_range (pa_cons (pe_callB (call_lenK (K := K)) (by rfl) T.n_len PySem.boot_len (pa_cons (pv 1) pa_nil)) pa_nil)) (pg_name (i := 4) sc_standing.nd rfl (.inl rfl)) (pss_cons (ps_par (i := 5) (j := 6) (by rfl) sc_standing.nd rfl rfl (by decide) rfl rfl (pa_cons (pv 4) (pa_cons (pe_un un_neg pe_int) pa_nil)) (by rfl))
    (pss_one (ps_while PassesOwn.never (PW.pt (pw_and (pt_cmpR op_lt (pv 5) (pe_callB (call_lenK (K := K)) (by rfl) T.n_len PySem.boot_len (pa_cons (pv 1) pa_nil)) (nomark _)) (pw_and1 (pt_cmpR op_gt (pe_dget2 (hu_of hr) (pv 2) (pe_ix (ix_K (K := K)) (pv 1) (pv 5) (fun _ _ => rfl)) (pe_un un_neg pe_int) ⟨rfl, rfl, rfl, rfl⟩) (pv 6) (nomark _))))) (pss_cons (ps_set (i := 6) sc_standing.nd rfl (Or.inl rfl) (pe_dget (hu_of hr) (pv 2) (pe_ix (ix_K (K := K)) (pv 1) (pv 5) (fun _ _ => rfl)) (fun _ _ => rfl)))
    (pss_cons (ps_aug (i := 5) sc_standing.nd rfl (Or.inl rfl) pe_int ip_add)
    (pss_one (ps_expr (pe_bmK (K := K) PySem.F.plainAttrs_list PySem.F.slot_list_append PySem.F.type_list_append mt_append (pv 3) (pa_cons (pe_tupN (pa_cons (pv 4) (pa_cons (pv 5) pa_nil))) pa_nil))))))))))
    (pss_one (ps_ret (pv 3)))))), ?_⟩
  exact sim_def0 (body := b_standing C) (ss_seq (ss_set (se_dc (own := [7, 8]) (si_enumU se_v) (sgo_tup (sgso_cons (sgso_cons sgso_nil))) st_yes se_v se_v))
    (ss_seq (ss_set (se_lst sa_nil (Nat.le_of_ble_eq_true rfl)))
    (ss_seq (ss_for (si_rng1 (sa_e (se_cb p_len (sa_v sa_nil)) sa_nil)) sg_name (ss_seq (ss_par se_v (se_un p_un (sa_e se_int sa_nil)))
    (ss_while fuelW.1 (st_and (st_test (se_op p_IB (sa_v (sa_e (se_cb p_len (sa_v sa_nil)) sa_nil)))) (st_test (se_op p_IB (sa_e (se_dget2 (se_op p_ix (sa_v (sa_v sa_nil))) (se_un p_un (sa_e se_int sa_nil))) (sa_v sa_nil))))) (ss_seq (ss_set (se_dget (se_op p_ix (sa_v (sa_v sa_nil)))))
    (ss_seq (ss_aug se_int)
    (ss_expr (se_mut p_app (sa_e (se_tup (sa_v (sa_v sa_nil)) (Nat.le_of_ble_eq_true rfl)) sa_nil))))))))
    (ss_ret (se_fz (se_mov)))))) rfl h
theorem c_holding (T : Txt K mg C) : Cal P w K mg base CX0 2 "holding" ["shelf", "number", "goal"] (SpOf K 3 (d_holding C)) := by
  obtain ⟨f, fd, hm, F⟩ := T.d_holding
  obtain ⟨f0, fd0, G0, m0, k0, b0⟩ := (c_fixed_in (P := P) (w := w) (base := base) T).ex
  obtain ⟨f1, fd1, G1, m1, k1, b1⟩ := (c_standing (P := P) (w := w) (base := base) T).ex
  refine ⟨f, fd, F.ok (CX := CX0) sc_holding (fun vs H Q E h => h.1) (fun cdv A outer s H vs Q E hr h => ?_), hm, F.kp, F.bindsN fun _ _ _ _ _ _ us hl => match us, hl with | [_, _, _], _ => rfl⟩
  refine ⟨_, PSs.nox (pss_cons (ps_set (i := 3) sc_holding.nd rfl (Or.inr rfl) (pe_ix (ix_K (K := K)) (pv 2) (pv 1) (fun _ _ => rfl)))
    (pss_cons (ps_set (i := 4) sc_holding.nd rfl (Or.inl rfl) (pe_call G0 (hr.mono (by decide)) rfl m0 k0 b0 .nil pass0 (pa_cons (pv 0) (pa_cons (pv 3) pa_nil))))
    (pss_cons (ps_set (i := 5) sc_holding.nd rfl (Or.inl rfl) (pe_lst pa_nil))
    (pss_cons (ps_for PassesOwn.never rfl (pi_seqK (K := K) (pe_call G1 (hr.mono (by decide)) rfl m1 k1 b1 .nil pass0 (pa_cons (pe_ix (ix_K (K := K)) (pe_ix (ix_K (K := K)) (pv 0) pe_int (fun _ _ => rfl)) (pv 1) (fun _ _ => rfl)) (pa_cons (pv 3) pa_nil)))) (pg_tupK (K := K) (n := 2) rfl (pgs_cons (pg_name (i := 6) sc_holding.nd rfl (.inr rfl)) (pgs_cons (pg_name (i := 7) sc_holding.nd rfl (.inr rfl)) pgs_nil))) (pss_one (ps_if (pt_val (pe_callB (call_allK (K := K) rfl) (by rfl) T.n_all (by decide +kernel) (pa_cons (pe_lc (own := [("book", 8)]) (by rfl) sc_holding.nd (pi_seqK (K := K) (pv 4)) (blkOk_by (by rfl)) (fun _ _ _ _ _ => (pg_name (i := 8) sc_holding.nd rfl (.inl rfl))) (fun _ _ _ _ _ => pts_nil) (fun _ _ _ _ _ => (pe_cmpR (op_inK (K := K)) (pv 8) (pe_slice (sl_K (K := K)) (pv 3) (po_some (pv 6)) (po_some (pv 7))) (by rfl)))) pa_nil))) (pss_one (ps_expr (pe_bmK (K := K) PySem.F.plainAttrs_list PySem.F.slot_list_append PySem.F.type_list_append mt_append (pv 5) (pa_cons (pe_tupN (pa_cons (pv 6) (pa_cons (pv 7) pa_nil))) pa_nil)))) pss_nil)))
    (pss_one (ps_ret (pv 5))))))), ?_⟩
  exact sim_def0 (body := b_holding C) (ss_seq (ss_set (se_op p_ix (sa_v (sa_v sa_nil))))
    (ss_seq (ss_set (se_call (sa_v (sa_v sa_nil))))
    (ss_seq (ss_set (se_lst sa_nil (Nat.le_of_ble_eq_true rfl)))
    (ss_seq (ss_for (si_seqU (se_call (sa_e (se_op p_ix (sa_e (se_op p_ix (sa_v (sa_e se_int sa_nil))) (sa_v sa_nil))) (sa_v sa_nil)))) (sg_tup (sgs_cons (sgs_cons sgs_nil))) (ss_if (st_val (se_cb p_all (sa_e (se_lc (own := [8]) (si_seqU se_v) sgo_name st_yes (se_op p_inU (sa_v (sa_e (sim_sl p_slU (sp_e se_v) (sp_e se_v)) sa_nil)))) sa_nil))) (ss_expr (se_mut p_app (sa_e (se_tup (sa_v (sa_v sa_nil)) (Nat.le_of_ble_eq_true rfl)) sa_nil))) ss_nx))
    (ss_ret (se_fz (se_mov))))))) rfl h
theorem c_greatest (T : Txt K mg C) : Cal P w K mg base CX0 3 "greatest" ["shelf", "number", "goal"] (SpOf K 3 (d_greatest C)) := by
  obtain ⟨f, fd, hm, F⟩ := T.d_greatest
  obtain ⟨f0, fd0, G0, m0, k0, b0⟩ := (c_holding (P := P) (w := w) (base := base) T).ex
  obtain ⟨f1, fd1, G1, m1, k1, b1⟩ := (c_price_in (P := P) (w := w) (base := base) T).ex
  refine ⟨f, fd, F.ok (CX := CX0) sc_greatest (fun vs H Q E h => h.1) (fun cdv A outer s H vs Q E hr h => ?_), hm, F.kp, F.bindsN fun _ _ _ _ _ _ us hl => match us, hl with | [_, _, _], _ => rfl⟩
  refine ⟨_, PSs.nox (pss_cons (ps_set (i := 3) sc_greatest.nd rfl (Or.inr rfl) (pe_ix (ix_K (K := K)) (pv 2) (pv 1) (fun _ _ => rfl)))
    (pss_cons (ps_setLc (i := 4) (own := [("first", 6), ("past", 7)]) (by rfl) sc_greatest.nd rfl rfl (sw_true rfl rfl rfl (by rfl)) (pi_seqK (K := K) (pe_call G0 (hr.mono (by decide)) rfl m0 k0 b0 .nil pass0 (pa_cons (pv 0) (pa_cons (pv 1) (pa_cons (pv 2) pa_nil))))) (blkOk_by (by rfl)) (fun _ _ _ _ _ => (pg_tupK (K := K) (n := 2) rfl (pgs_cons (pg_name (i := 6) sc_greatest.nd rfl (.inl rfl)) (pgs_cons (pg_name (i := 7) sc_greatest.nd rfl (.inl rfl)) pgs_nil)))) (fun _ _ _ _ _ => pts_nil) (fun _ _ _ _ _ => (pe_tupN (pa_cons (pe_call G1 (hr.mono (by decide)) rfl m1 k1 b1 .nil pass0 (pa_cons (pv 0) (pa_cons (pe_slice (sl_K (K := K)) (pv 3) (po_some (pv 6)) (po_some (pv 7))) pa_nil))) (pa_cons (pe_tupN (pa_cons (pv 6) (pa_cons (pv 7) pa_nil))) pa_nil)))))
    (pss_cons (ps_set (i := 5) sc_greatest.nd rfl (Or.inr rfl) (pe_ifExp (pt_cmpR (op_neK (K := K) hr.units) (pv 4) (pe_lst pa_nil) (nomark _)) (pe_callB (call_maxU (K := K) rfl) (by rfl) T.n_max (by decide +kernel) (pa_cons (pe_lc (own := [("price", 8), ("stretch", 9)]) (by rfl) sc_greatest.nd (pi_seqK (K := K) (pv 4)) (blkOk_by (by rfl)) (fun _ _ _ _ _ => (pg_tupK (K := K) (n := 2) rfl (pgs_cons (pg_name (i := 8) sc_greatest.nd rfl (.inl rfl)) (pgs_cons (pg_name (i := 9) sc_greatest.nd rfl (.inl rfl)) pgs_nil)))) (fun _ _ _ _ _ => pts_nil) (fun _ _ _ _ _ => (pv 8))) pa_nil)) pe_int))
    (pss_one (ps_ret (pe_lc (own := [("price", 8), ("stretch", 9)]) (by rfl) sc_greatest.nd (pi_seqK (K := K) (pv 4)) (blkOk_by (by rfl)) (fun _ _ _ _ _ => (pg_tupK (K := K) (n := 2) rfl (pgs_cons (pg_name (i := 8) sc_greatest.nd rfl (.inl rfl)) (pgs_cons (pg_name (i := 9) sc_greatest.nd rfl (.inl rfl)) pgs_nil)))) (fun _ _ _ _ _ => (pts_one (pt_cmpR (op_eqK (K := K) hr.units) (pv 8) (pv 5) (nomark _)))) (fun _ _ _ _ _ => (pv 9)))))))), ?_⟩
  exact sim_def0 (body := b_greatest C) (ss_seq (ss_set (se_op p_ix (sa_v (sa_v sa_nil))))
    (ss_seq (ss_set (se_fz (se_lc (own := [6, 7]) (si_seqU (se_call (sa_v (sa_v (sa_v sa_nil))))) (sgo_tup (sgso_cons (sgso_cons sgso_nil))) st_yes (se_tup (sa_e (se_call (sa_v (sa_e (se_fz (sim_sl p_slU (sp_e se_v) (sp_e se_v))) sa_nil))) (sa_e (se_tup (sa_v (sa_v sa_nil)) (Nat.le_of_ble_eq_true rfl)) sa_nil)) (Nat.le_of_ble_eq_true rfl)))))
    (ss_seq (ss_set (se_if (st_test (se_op p_ne (sa_v (sa_e (se_lst sa_nil (Nat.le_of_ble_eq_true rfl)) sa_nil)))) (se_cb p_maxU (sa_e (se_lc (own := [8, 9]) (si_seqU se_v) (sgo_tup (sgso_cons (sgso_cons sgso_nil))) st_yes se_v) sa_nil)) se_int))
    (ss_ret (se_fz (se_lc (own := [8, 9]) (si_seqU se_v) (sgo_tup (sgso_cons (sgso_cons sgso_nil))) (st_test (se_op p_eq (sa_v (sa_v sa_nil)))) se_v)))))) rfl h
theorem c_longest (T : Txt K mg C) : Cal P w K mg base CX0 3 "longest" ["shelf", "number", "goal"] (SpOf K 3 (d_longest C)) := by
  obtain ⟨f, fd, hm, F⟩ := T.d_longest
  obtain ⟨f0, fd0, G0, m0, k0, b0⟩ := (c_holding (P := P) (w := w) (base := base) T).ex
  obtain ⟨f1, fd1, G1, m1, k1, b1⟩ := (c_fixed_in (P := P) (w := w) (base := base) T).ex
  refine ⟨f, fd, F.ok (CX := CX0) sc_longest (fun vs H Q E h => h.1) (fun cdv A outer s H vs Q E hr h => ?_), hm, F.kp, F.bindsN fun _ _ _ _ _ _ us hl => match us, hl with | [_, _, _], _ => rfl⟩
  refine ⟨_, PSs.nox (pss_cons (ps_set (i := 3) sc_longest.nd rfl (Or.inl rfl) (pe_ix (ix_K (K := K)) (pv 2) (pv 1) (fun _ _ => rfl)))
    (pss_cons (ps_setLc (i := 4) (own := [("first", 5), ("past", 6)]) (by rfl) sc_longest.nd rfl rfl (sw_true rfl rfl rfl (by rfl)) (pi_seqK (K := K) (pe_call G0 (hr.mono (by decide)) rfl m0 k0 b0 .nil pass0 (pa_cons (pv 0) (pa_cons (pv 1) (pa_cons (pv 2) pa_nil))))) (blkOk_by (by rfl)) (fun _ _ _ _ _ => (pg_tupK (K := K) (n := 2) rfl (pgs_cons (pg_name (i := 5) sc_longest.nd rfl (.inl rfl)) (pgs_cons (pg_name (i := 6) sc_longest.nd rfl (.inl rfl)) pgs_nil)))) (fun _ _ _ _ _ => pts_nil) (fun _ _ _ _ _ => (pe_op op_sub (pv 6) (pv 5))))
    (pss_one (ps_ret (pe_ifExp (pt_cmpR (op_neK (K := K) hr.units) (pv 4) (pe_lst pa_nil) (nomark _)) (pe_op op_sub (pe_callB (call_maxU (K := K) rfl) (by rfl) T.n_max (by decide +kernel) (pa_cons (pv 4) pa_nil)) (pe_callB (call_lenK (K := K)) (by rfl) T.n_len PySem.boot_len (pa_cons (pe_call G1 (hr.mono (by decide)) rfl m1 k1 b1 .nil pass0 (pa_cons (pv 0) (pa_cons (pv 3) pa_nil))) pa_nil))) pe_int))))), ?_⟩
  exact sim_def0 (body := b_longest C) (ss_seq (ss_set (se_op p_ix (sa_v (sa_v sa_nil))))
    (ss_seq (ss_set (se_fz (se_lc (own := [5, 6]) (si_seqU (se_call (sa_v (sa_v (sa_v sa_nil))))) (sgo_tup (sgso_cons (sgso_cons sgso_nil))) st_yes (se_op p_I0 (sa_v (sa_v sa_nil))))))
    (ss_ret (se_if (st_test (se_op p_ne (sa_v (sa_e (se_lst sa_nil (Nat.le_of_ble_eq_true rfl)) sa_nil)))) (se_op p_I0 (sa_e (se_cb p_maxU (sa_v sa_nil)) (sa_e (se_cb p_len (sa_e (se_call (sa_v (sa_v sa_nil))) sa_nil)) sa_nil))) se_int)))) rfl h
theorem c_bar_of (T : Txt K mg C) : Cal P w K mg base CX0 3 "bar_of" ["shelf", "goal"] (SpOf K 2 (d_bar_of C)) := by
  obtain ⟨f, fd, hm, F⟩ := T.d_bar_of
  obtain ⟨f0, fd0, G0, m0, k0, b0⟩ := (c_lot_of (P := P) (w := w) (base := base) T).ex
  obtain ⟨f1, fd1, G1, m1, k1, b1⟩ := (c_fixed_in (P := P) (w := w) (base := base) T).ex
  obtain ⟨f2, fd2, G2, m2, k2, b2⟩ := (c_holding (P := P) (w := w) (base := base) T).ex
  refine ⟨f, fd, F.ok (CX := CX0) sc_bar_of (fun vs H Q E h => h.1) (fun cdv A outer s H vs Q E hr h => ?_), hm, F.kp, F.bindsN fun _ _ _ _ _ _ us hl => match us, hl with | [_, _], _ => rfl⟩
  refine ⟨_, PSs.nox (pss_cons (ps_for PassesOwn.never rfl (pi_enumK (K := K) (by rfl) T.n_enumerate (pa_cons (pe_ix (ix_K (K := K)) (pv 0) pe_int (fun _ _ => rfl)) pa_nil)) (pg_tupK (K := K) (n := 2) rfl (pgs_cons (pg_name (i := 2) sc_bar_of.nd rfl (.inl rfl)) (pgs_cons (pg_name (i := 3) sc_bar_of.nd rfl (.inl rfl)) pgs_nil))) (pss_one (ps_if (PW.pt (pw_and (pt_cmpR op_isN (pv 3) pe_non (nomark _)) (pw_and1 (pt_cmpR (op_neK (K := K) hr.units) (pe_call G0 (hr.mono (by decide)) rfl m0 k0 b0 .nil pass0 (pa_cons (pe_ix (ix_K (K := K)) (pv 0) pe_int (fun _ _ => rfl)) (pa_cons (pv 2) pa_nil))) (pe_call G0 (hr.mono (by decide)) rfl m0 k0 b0 .nil pass0 (pa_cons (pv 1) (pa_cons (pv 2) pa_nil))) (nomark _))))) (pss_one (ps_ret (pe_tupN (pa_cons (pe_glob (v := .str "lot") rfl T.k_LOT.choose_spec ⟨_, rfl⟩) (pa_cons (pv 2) pa_nil))))) pss_nil)))
    (pss_cons (ps_for PassesOwn.never rfl (pi_enumK (K := K) (by rfl) T.n_enumerate (pa_cons (pv 1) pa_nil)) (pg_tupK (K := K) (n := 2) rfl (pgs_cons (pg_name (i := 4) sc_bar_of.nd rfl (.inl rfl)) (pgs_cons (pg_name (i := 5) sc_bar_of.nd rfl (.inl rfl)) pgs_nil))) (pss_one (ps_if (PW.pt (pw_and (pt_cmpR (op_neK (K := K) hr.units) (pe_call G1 (hr.mono (by decide)) rfl m1 k1 b1 .nil pass0 (pa_cons (pv 0) (pa_cons (pv 5) pa_nil))) (pe_lst pa_nil) (nomark _)) (pw_and1 (pt_cmpR (op_eqK (K := K) hr.units) (pe_call G2 (hr.mono (by decide)) rfl m2 k2 b2 .nil pass0 (pa_cons (pv 0) (pa_cons (pv 4) (pa_cons (pv 1) pa_nil)))) (pe_lst pa_nil) (nomark _))))) (pss_one (ps_ret (pe_tupN (pa_cons (pe_glob (v := .str "turn") rfl T.k_TURN.choose_spec ⟨_, rfl⟩) (pa_cons (pv 4) pa_nil))))) pss_nil)))
    (pss_one (ps_ret pe_non)))), ?_⟩
  exact sim_def0 (body := b_bar_of C) (ss_seq (ss_for (si_enumU (se_op p_ix (sa_v (sa_e se_int sa_nil)))) (sg_tup (sgs_cons (sgs_cons sgs_nil))) (ss_if (st_and (st_test (se_op p_isN (sa_v (sa_e se_non sa_nil)))) (st_test (se_op p_ne (sa_e (se_call (sa_e (se_op p_ix (sa_v (sa_e se_int sa_nil))) (sa_v sa_nil))) (sa_e (se_call (sa_v (sa_v sa_nil))) sa_nil))))) (ss_ret (se_tup (sa_e se_str (sa_v sa_nil)) (Nat.le_of_ble_eq_true rfl))) ss_nx))
    (ss_seq (ss_for (si_enumU se_v) (sg_tup (sgs_cons (sgs_cons sgs_nil))) (ss_if (st_and (st_test (se_op p_ne (sa_e (se_call (sa_v (sa_v sa_nil))) (sa_e (se_lst sa_nil (Nat.le_of_ble_eq_true rfl)) sa_nil)))) (st_test (se_op p_eq (sa_e (se_call (sa_v (sa_v (sa_v sa_nil)))) (sa_e (se_lst sa_nil (Nat.le_of_ble_eq_true rfl)) sa_nil))))) (ss_ret (se_tup (sa_e se_str (sa_v sa_nil)) (Nat.le_of_ble_eq_true rfl))) ss_nx))
    (ss_ret se_non))) rfl h
theorem c_barred (T : Txt K mg C) : Cal P w K mg base CX0 5 "barred" ["shelf", "goal"] (SpOf K 2 (d_barred C)) := by
  obtain ⟨f, fd, hm, F⟩ := T.d_barred
  obtain ⟨f0, fd0, G0, m0, k0, b0⟩ := (c_need_shelf (P := P) (w := w) (base := base) T).ex
  obtain ⟨f1, fd1, G1, m1, k1, b1⟩ := (c_need_goal (P := P) (w := w) (base := base) T).ex
  obtain ⟨f2, fd2, G2, m2, k2, b2⟩ := (c_bar_of (P := P) (w := w) (base := base) T).ex
  refine ⟨f, fd, F.ok (CX := CX0) sc_barred (fun vs H Q E h => h.1) (fun cdv A outer s H vs Q E hr h => ?_), hm, F.kp, F.bindsN fun _ _ _ _ _ _ us hl => match us, hl with | [_, _], _ => rfl⟩
  refine ⟨_, PSs.nox (pss_cons (ps_expr (pe_call G0 (hr.mono (by decide)) rfl m0 k0 b0 .nil pass0 (pa_cons (pv 0) pa_nil)))
    (pss_cons (ps_expr (pe_call G1 (hr.mono (by decide)) rfl m1 k1 b1 .nil pass0 (pa_cons (pv 0) (pa_cons (pv 1) pa_nil))))
    (pss_one (ps_ret (pe_call G2 (hr.mono (by decide)) rfl m2 k2 b2 .nil pass0 (pa_cons (pv 0) (pa_cons (pv 1) pa_nil))))))), ?_⟩
  exact sim_def0 (body := b_barred C) (ss_seq (ss_expr (se_call (sa_v sa_nil)))
    (ss_seq (ss_expr (se_call (sa_v (sa_v sa_nil))))
    (ss_ret (se_call (sa_v (sa_v sa_nil)))))) rfl h
theorem c_Task_init (T : Txt K mg C) : CalI P w K mg base CX0 4 "Task" (C "Task") ["self", "shelf", "goal"] (SpOf K 3 (d_Task_init C)) := by
  obtain ⟨f, fd, hM, hm, F⟩ := T.d_Task_init
  obtain ⟨f0, fd0, G0, m0, k0, b0⟩ := (c_greatest (P := P) (w := w) (base := base) T).ex
  refine ⟨f, fd, F.ok (CX := CX0) sc_Task_init (fun vs H Q E h => h.1) (fun cdv A outer s H vs Q E hr h => ?_), hM, hm, F.bindsN fun _ _ _ _ _ _ us hl => match us, hl with | [_, _, _], _ => rfl⟩
  refine ⟨_, PSs.nox (pss_cons (ps_fld (pv 0) (pv 1) rfl)
    (pss_cons (ps_fld (pv 0) (pv 2) rfl)
    (pss_one (ps_fld (pv 0) (pe_lc (own := [("number", 3)]) (by rfl) sc_Task_init.nd (pi_range1 (by rfl) T.n_range (pa_cons (pe_callB (call_lenK (K := K)) (by rfl) T.n_len PySem.boot_len (pa_cons (pv 2) pa_nil)) pa_nil)) (blkOk_by (by rfl)) (fun _ _ _ _ _ => (pg_name (i := 3) sc_Task_init.nd rfl (.inl rfl))) (fun _ _ _ _ _ => pts_nil) (fun _ _ _ _ _ => (pe_call G0 (hr.mono (by decide)) rfl m0 k0 b0 .nil pass0 (pa_cons (pv 1) (pa_cons (pv 3) (pa_cons (pv 2) pa_nil)))))) rfl)))), ?_⟩
  exact sim_def0 (body := b_Task_init C) (ss_seq (ss_setF T.cl_Task T.at_Task_wood se_v)
    (ss_seq (ss_setF T.cl_Task T.at_Task_wanted se_v)
    (ss_setF T.cl_Task T.at_Task_runs (se_fz (se_lc (own := [3]) (si_rng1 (sa_e (se_cb p_len (sa_v sa_nil)) sa_nil)) sgo_name st_yes (se_call (sa_v (sa_v (sa_v sa_nil))))))))) rfl h
theorem c_Task_may (T : Txt K mg C) : CalM P w K mg base CX0 4 (C "Task") "may" ["self"] (SpOf K 1 (d_Task_may C)) := by
  obtain ⟨f, fd, hm, F⟩ := T.d_Task_may
  obtain ⟨f0, fd0, G0, m0, k0, b0⟩ := (c_bar_of (P := P) (w := w) (base := base) T).ex
  refine ⟨f, fd, F.ok (CX := CX0) sc_Task_may (fun vs H Q E h => h.1) (fun cdv A outer s H vs Q E hr h => ?_), hm, F.bindsN fun _ _ _ _ _ _ us hl => match us, hl with | [_], _ => rfl⟩
  refine ⟨_, PSs.nox (pss_one (ps_ret (pe_cmpR op_isN (pe_call G0 (hr.mono (by decide)) rfl m0 k0 b0 .nil pass0 (pa_cons (pe_fldK (K := K) (pv 0) rfl) (pa_cons (pe_fldK (K := K) (pv 0) rfl) pa_nil))) pe_non (nomark _)))), ?_⟩
  exact sim_def0 (body := b_Task_may C) (ss_ret (se_op p_isN (sa_e (se_call (sa_e (se_fld T.cl_Task T.at_Task_wood) (sa_e (se_fld T.cl_Task T.at_Task_wanted) sa_nil))) (sa_e se_non sa_nil)))) rfl h
theorem c_Task_chosen (T : Txt K mg C) : CalM P w K mg base CX0 1 (C "Task") "chosen" ["self", "number"] (SpOf K 2 (d_Task_chosen C)) := by
  obtain ⟨f, fd, hm, F⟩ := T.d_Task_chosen
  refine ⟨f, fd, F.ok (CX := CX0) sc_Task_chosen (fun vs H Q E h => h.1) (fun cdv A outer s H vs Q E hr h => ?_), hm, F.bindsN fun _ _ _ _ _ _ us hl => match us, hl with | [_, _], _ => rfl⟩
  refine ⟨_, PSs.nox (pss_one (ps_ret (pe_ifExp (pt_cmpR (op_neK (K := K) hr.units) (pe_ix (ix_K (K := K)) (pe_fldK (K := K) (pv 0) rfl) (pv 1) (fun _ _ => rfl)) (pe_lst pa_nil) (nomark _)) (pe_ix (ix_K (K := K)) (pe_ix (ix_K (K := K)) (pe_fldK (K := K) (pv 0) rfl) (pv 1) (fun _ _ => rfl)) pe_int (fun _ _ => rfl)) (pe_tupN (pa_cons pe_int (pa_cons pe_int pa_nil)))))), ?_⟩
  exact sim_def0 (body := b_Task_chosen C) (ss_ret (se_if (st_test (se_op p_ne (sa_e (se_op p_ix (sa_e (se_fld T.cl_Task T.at_Task_runs) (sa_v sa_nil))) (sa_e (se_lst sa_nil (Nat.le_of_ble_eq_true rfl)) sa_nil)))) (se_op p_ix (sa_e (se_op p_ix (sa_e (se_fld T.cl_Task T.at_Task_runs) (sa_v sa_nil))) (sa_e se_int sa_nil))) (se_tup (sa_e se_int (sa_e se_int sa_nil)) (Nat.le_of_ble_eq_true rfl)))) rfl h
theorem c_Task_cost (T : Txt K mg C) : CalM P w K mg base CX0 2 (C "Task") "cost" ["self"] (SpOf K 1 (d_Task_cost C)) := by
  obtain ⟨f, fd, hm, F⟩ := T.d_Task_cost
  obtain ⟨f0, fd0, G0, m0, k0, b0⟩ := (c_price_in (P := P) (w := w) (base := base) T).ex
  obtain ⟨f1, fd1, G1, m1, b1⟩ := (c_Task_chosen (P := P) (w := w) (base := base) T).ex
  refine ⟨f, fd, F.ok (CX := CX0) sc_Task_cost (fun vs H Q E h => h.1) (fun cdv A outer s H vs Q E hr h => ?_), hm, F.bindsN fun _ _ _ _ _ _ us hl => match us, hl with | [_], _ => rfl⟩
  refine ⟨_, PSs.nox (pss_cons (ps_set (i := 1) sc_Task_cost.nd rfl (Or.inl rfl) (pe_call G0 (hr.mono (by decide)) rfl m0 k0 b0 .nil pass0 (pa_cons (pe_fldK (K := K) (pv 0) rfl) (pa_cons (pe_listRg rfl (by rfl) T.n_list (prg_1 (by rfl) T.n_range (pe_callB (call_lenK (K := K)) (by rfl) T.n_len PySem.boot_len (pa_cons (pe_ix (ix_K (K := K)) (pe_fldK (K := K) (pv 0) rfl) pe_int (fun _ _ => rfl)) pa_nil)))) pa_nil))))
    (pss_cons (ps_for PassesOwn.never rfl (pi_enumK (K := K) (by rfl) T.n_enumerate (pa_cons (pe_fldK (K := K) (pv 0) rfl) pa_nil)) (pg_tupK (K := K) (n := 2) rfl (pgs_cons (pg_name (i := 2) sc_Task_cost.nd rfl (.inl rfl)) (pgs_cons (pg_name (i := 3) sc_Task_cost.nd rfl (.inl rfl)) pgs_nil))) (pss_cons (ps_asg (pe_meth (pv 0) T.cl_Task m1 G1 (hr.mono (by decide)) b1 .nil pass0 (pa_cons (pv 2) pa_nil)) (pg_tupK (K := K) (n := 2) rfl (pgs_cons (pg_name (i := 4) sc_Task_cost.nd rfl (.inl rfl)) (pgs_cons (pg_name (i := 5) sc_Task_cost.nd rfl (.inl rfl)) pgs_nil))))
    (pss_one (ps_aug (i := 1) sc_Task_cost.nd rfl (Or.inl rfl) (pe_call G0 (hr.mono (by decide)) rfl m0 k0 b0 .nil pass0 (pa_cons (pe_fldK (K := K) (pv 0) rfl) (pa_cons (pe_slice (sl_K (K := K)) (pv 3) (po_some (pv 4)) (po_some (pv 5))) pa_nil))) ip_sub))))
    (pss_one (ps_ret (pv 1))))), ?_⟩
  exact sim_def0 (body := b_Task_cost C) (ss_seq (ss_set (se_call (sa_e (se_fld T.cl_Task T.at_Task_wood) (sa_e (se_fz (se_lrng (se_cb p_len (sa_e (se_op p_ix (sa_e (se_fld T.cl_Task T.at_Task_wood) (sa_e se_int sa_nil))) sa_nil)))) sa_nil))))
    (ss_seq (ss_for (si_enumU (se_fld T.cl_Task T.at_Task_wanted)) (sg_tup (sgs_cons (sgs_cons sgs_nil))) (ss_seq (ss_asgG (se_meth (sa_v sa_nil)) (sg_tup (sgs_cons (sgs_cons sgs_nil))))
    (ss_aug (se_call (sa_e (se_fld T.cl_Task T.at_Task_wood) (sa_e (se_fz (sim_sl p_slU (sp_e se_v) (sp_e se_v))) sa_nil))))))
    (ss_ret se_v))) rfl h
theorem c_Task_way (T : Txt K mg C) : CalM P w K mg base CX0 2 (C "Task") "way" ["self"] (SpOf K 1 (d_Task_way C)) := by
  obtain ⟨f, fd, hm, F⟩ := T.d_Task_way
  obtain ⟨f0, fd0, G0, m0, b0⟩ := (c_Task_chosen (P := P) (w := w) (base := base) T).ex
  refine ⟨f, fd, F.ok (CX := CX0) sc_Task_way (fun vs H Q E h => h.1) (fun cdv A outer s H vs Q E hr h => ?_), hm, F.bindsN fun _ _ _ _ _ _ us hl => match us, hl with | [_], _ => rfl⟩
  refine ⟨_, PSs.nox (pss_cons (ps_set (i := 1) sc_Task_way.nd rfl (Or.inl rfl) (pe_lst pa_nil))
    (pss_cons (ps_for PassesOwn.never rfl (pi_enumK (K := K) (by rfl) T.n_enumerate (pa_cons (pe_fldK (K := K) (pv 0) rfl) pa_nil)) (pg_tupK (K := K) (n := 2) rfl (pgs_cons (pg_name (i := 2) sc_Task_way.nd rfl (.inr rfl)) (pgs_cons (pg_name (i := 3) sc_Task_way.nd rfl (.inl rfl)) pgs_nil))) (pss_cons (ps_asg (pe_meth (pv 0) T.cl_Task m0 G0 (hr.mono (by decide)) b0 .nil pass0 (pa_cons (pv 2) pa_nil)) (pg_tupK (K := K) (n := 2) rfl (pgs_cons (pg_name (i := 4) sc_Task_way.nd rfl (.inl rfl)) (pgs_cons (pg_name (i := 5) sc_Task_way.nd rfl (.inl rfl)) pgs_nil))))
    (pss_cons (ps_expr (pe_bmK (K := K) PySem.F.plainAttrs_list PySem.F.slot_list_extend PySem.F.type_list_extend mt_extend (pv 1) (pa_cons (pe_lc (own := [("book", 6)]) (by rfl) sc_Task_way.nd (pi_seqK (K := K) (pe_revS (K := K) (pe_slice (sl_K (K := K)) (pv 3) po_none (po_some (pv 4))) (po_some (pe_un un_neg pe_int)))) (blkOk_by (by rfl)) (fun _ _ _ _ _ => (pg_name (i := 6) sc_Task_way.nd rfl (.inl rfl))) (fun _ _ _ _ _ => pts_nil) (fun _ _ _ _ _ => (pe_tupN (pa_cons (pv 6) (pa_cons (pv 2) (pa_cons (pe_glob (v := .str "first") rfl T.k_FIRST.choose_spec ⟨_, rfl⟩) pa_nil)))))) pa_nil)))
    (pss_one (ps_expr (pe_bmK (K := K) PySem.F.plainAttrs_list PySem.F.slot_list_extend PySem.F.type_list_extend mt_extend (pv 1) (pa_cons (pe_lc (own := [("book", 6)]) (by rfl) sc_Task_way.nd (pi_seqK (K := K) (pe_slice (sl_K (K := K)) (pv 3) (po_some (pv 5)) po_none)) (blkOk_by (by rfl)) (fun _ _ _ _ _ => (pg_name (i := 6) sc_Task_way.nd rfl (.inl rfl))) (fun _ _ _ _ _ => pts_nil) (fun _ _ _ _ _ => (pe_tupN (pa_cons (pv 6) (pa_cons (pv 2) (pa_cons (pe_glob (v := .str "last") rfl T.k_LAST.choose_spec ⟨_, rfl⟩) pa_nil)))))) pa_nil)))))))
    (pss_one (ps_ret (pv 1))))), ?_⟩
  exact sim_def0 (body := b_Task_way C) (ss_seq (ss_set (se_lst sa_nil (Nat.le_of_ble_eq_true rfl)))
    (ss_seq (ss_for (si_enumU (se_fld T.cl_Task T.at_Task_wanted)) (sg_tup (sgs_cons (sgs_cons sgs_nil))) (ss_seq (ss_asgG (se_meth (sa_v sa_nil)) (sg_tup (sgs_cons (sgs_cons sgs_nil))))
    (ss_seq (ss_expr (se_mut p_ext (sa_e (se_lc (own := [6]) (si_seqU (se_rev (sim_sl p_slU sp_no (sp_e se_v)) (se_un p_un (sa_e se_int sa_nil)))) sgo_name st_yes (se_tup (sa_v (sa_v (sa_e se_str sa_nil))) (Nat.le_of_ble_eq_true rfl))) sa_nil)))
    (ss_expr (se_mut p_ext (sa_e (se_lc (own := [6]) (si_seqU (sim_sl p_slU (sp_e se_v) sp_no)) sgo_name st_yes (se_tup (sa_v (sa_v (sa_e se_str sa_nil))) (Nat.le_of_ble_eq_true rfl))) sa_nil))))))
    (ss_ret (se_fz (se_mov))))) rfl h
theorem c_Task_sides (T : Txt K mg C) : CalM P w K mg base CX0 1 (C "Task") "sides" ["self", "number"] (SpOf K 2 (d_Task_sides C)) := by
  obtain ⟨f, fd, hm, F⟩ := T.d_Task_sides
  refine ⟨f, fd, F.ok (CX := CX0) sc_Task_sides (fun vs H Q E h => h.1) (fun cdv A outer s H vs Q E hr h => ?_), hm, F.bindsN fun _ _ _ _ _ _ us hl => match us, hl with | [_, _], _ => rfl⟩
  refine ⟨_, PSs.nox (pss_cons (ps_set (i := 2) sc_Task_sides.nd rfl (Or.inr rfl) (pe_callB (call_lenK (K := K)) (by rfl) T.n_len PySem.boot_len (pa_cons (pe_ix (ix_K (K := K)) (pe_fldK (K := K) (pv 0) rfl) (pv 1) (fun _ _ => rfl)) pa_nil)))
    (pss_cons (ps_if (pt_cmpR (op_eqK (K := K) hr.units) (pe_ix (ix_K (K := K)) (pe_fldK (K := K) (pv 0) rfl) (pv 1) (fun _ _ => rfl)) (pe_lst pa_nil) (nomark _)) (pss_one (ps_ret (pe_lc (own := [("first", 3)]) (by rfl) sc_Task_sides.nd (pi_range1 (by rfl) T.n_range (pa_cons (pe_op (op_addK (K := K)) (pv 2) pe_int) pa_nil)) (blkOk_by (by rfl)) (fun _ _ _ _ _ => (pg_name (i := 3) sc_Task_sides.nd rfl (.inl rfl))) (fun _ _ _ _ _ => pts_nil) (fun _ _ _ _ _ => (pe_tupN (pa_cons (pv 3) (pa_cons (pe_op op_sub (pv 2) (pv 3)) pa_nil))))))) pss_nil)
    (pss_one (ps_ret (pe_lc (own := [("first", 3), ("past", 4)]) (by rfl) sc_Task_sides.nd (pi_seqK (K := K) (pe_ix (ix_K (K := K)) (pe_fldK (K := K) (pv 0) rfl) (pv 1) (fun _ _ => rfl))) (blkOk_by (by rfl)) (fun _ _ _ _ _ => (pg_tupK (K := K) (n := 2) rfl (pgs_cons (pg_name (i := 3) sc_Task_sides.nd rfl (.inl rfl)) (pgs_cons (pg_name (i := 4) sc_Task_sides.nd rfl (.inl rfl)) pgs_nil)))) (fun _ _ _ _ _ => pts_nil) (fun _ _ _ _ _ => (pe_tupN (pa_cons (pv 3) (pa_cons (pe_op op_sub (pv 2) (pv 4)) pa_nil))))))))), ?_⟩
  exact sim_def0 (body := b_Task_sides C) (ss_seq (ss_set (se_cb p_len (sa_e (se_op p_ix (sa_e (se_fld T.cl_Task T.at_Task_wanted) (sa_v sa_nil))) sa_nil)))
    (ss_seq (ss_if (st_test (se_op p_eq (sa_e (se_op p_ix (sa_e (se_fld T.cl_Task T.at_Task_runs) (sa_v sa_nil))) (sa_e (se_lst sa_nil (Nat.le_of_ble_eq_true rfl)) sa_nil)))) (ss_ret (se_fz (se_lc (own := [3]) (si_rng1 (sa_e (se_op p_addU (sa_v (sa_e se_int sa_nil))) sa_nil)) sgo_name st_yes (se_tup (sa_v (sa_e (se_op p_I0 (sa_v (sa_v sa_nil))) sa_nil)) (Nat.le_of_ble_eq_true rfl))))) ss_nx)
    (ss_ret (se_fz (se_lc (own := [3, 4]) (si_seqU (se_op p_ix (sa_e (se_fld T.cl_Task T.at_Task_runs) (sa_v sa_nil)))) (sgo_tup (sgso_cons (sgso_cons sgso_nil))) st_yes (se_tup (sa_v (sa_e (se_op p_I0 (sa_v (sa_v sa_nil))) sa_nil)) (Nat.le_of_ble_eq_true rfl))))))) rfl h
theorem c_blended (T : Txt K mg C) : Cal P w K mg base CX0 1 "blended" ["one", "other"] (SpOf K 2 (d_blended C)) := by
  obtain ⟨f, fd, hm, F⟩ := T.d_blended
  refine ⟨f, fd, F.ok (CX := CX0) sc_blended (fun vs H Q E h => h.1) (fun cdv A outer s H vs Q E hr h => ?_), hm, F.kp, F.bindsN fun _ _ _ _ _ _ us hl => match us, hl with | [_, _], _ => rfl⟩
  refine ⟨_, PSs.nox (pss_cons (ps_set (i := 2) sc_blended.nd rfl (Or.inl rfl) pe_int)
    (pss_cons (ps_for PassesOwn.never rfl (pi_range1 (by rfl) T.n_range (pa_cons (pv 1) pa_nil)) (pg_name (i := 3) sc_blended.nd rfl (.inl rfl)) (pss_one (ps_set (i := 2) sc_blended.nd rfl (Or.inl rfl) (pe_op op_fdiv (pe_op (op_mulV (K := K)) (pv 2) (pe_op (op_addK (K := K)) (pe_op (op_addK (K := K)) (pv 0) (pv 3)) pe_int)) (pe_op (op_addK (K := K)) (pv 3) pe_int)))))
    (pss_one (ps_ret (pv 2))))), ?_⟩
  exact sim_def0 (body := b_blended C) (ss_seq (ss_set se_int)
    (ss_seq (ss_for (si_rng1 (sa_v sa_nil)) sg_name (ss_set (se_op p_div (sa_e (se_op p_mulV (sa_v (sa_e (se_op p_addU (sa_e (se_op p_addU (sa_v (sa_v sa_nil))) (sa_e se_int sa_nil))) sa_nil))) (sa_e (se_op p_addU (sa_v (sa_e se_int sa_nil))) sa_nil)))))
    (ss_ret se_v))) rfl h
theorem c_Task_ways (T : Txt K mg C) : CalM P w K mg base CX0 2 (C "Task") "ways" ["self"] (SpOf K 1 (d_Task_ways C)) := by
  obtain ⟨f, fd, hm, F⟩ := T.d_Task_ways
  obtain ⟨f0, fd0, G0, m0, b0⟩ := (c_Task_sides (P := P) (w := w) (base := base) T).ex
  obtain ⟨f1, fd1, G1, m1, k1, b1⟩ := (c_blended (P := P) (w := w) (base := base) T).ex
  refine ⟨f, fd, F.ok (CX := CX0) sc_Task_ways (fun vs H Q E h => h.1) (fun cdv A outer s H vs Q E hr h => ?_), hm, F.bindsN fun _ _ _ _ _ _ us hl => match us, hl with | [_], _ => rfl⟩
  refine ⟨_, PSs.nox (pss_cons (ps_set (i := 1) sc_Task_ways.nd rfl (Or.inl rfl) (pe_disp (pps_cons pe_int pe_int pps_nil) rfl rfl (fun h => nomatch h) (Nat.le_of_ble_eq_true rfl)))
    (pss_cons (ps_for PassesOwn.never rfl (pi_range1 (by rfl) T.n_range (pa_cons (pe_callB (call_lenK (K := K)) (by rfl) T.n_len PySem.boot_len (pa_cons (pe_fldK (K := K) (pv 0) rfl) pa_nil)) pa_nil)) (pg_name (i := 2) sc_Task_ways.nd rfl (.inl rfl)) (pss_cons (ps_set (i := 3) sc_Task_ways.nd rfl (Or.inl rfl) pe_dnewK)
    (pss_cons (ps_lock (ps_for PassesOwn.never rfl (pi_itemsN (pv 1)) (pg_tupK (K := K) (n := 2) rfl (pgs_cons (pg_name (i := 4) sc_Task_ways.nd rfl (.inl rfl)) (pgs_cons (pg_name (i := 5) sc_Task_ways.nd rfl (.inl rfl)) pgs_nil))) (pss_one (ps_for PassesOwn.never rfl (pi_seqK (K := K) (pe_meth (pv 0) T.cl_Task m0 G0 (hr.mono (by decide)) b0 .nil pass0 (pa_cons (pv 2) pa_nil))) (pg_tupK (K := K) (n := 2) rfl (pgs_cons (pg_name (i := 6) sc_Task_ways.nd rfl (.inl rfl)) (pgs_cons (pg_name (i := 7) sc_Task_ways.nd rfl (.inl rfl)) pgs_nil))) (pss_cons (ps_set (i := 8) sc_Task_ways.nd rfl (Or.inl rfl) (pe_op (op_addK (K := K)) (pv 6) (pv 7)))
    (pss_cons (ps_set (i := 9) sc_Task_ways.nd rfl (Or.inl rfl) (pe_op (op_mulV (K := K)) (pe_call G1 (hr.mono (by decide)) rfl m1 k1 b1 .nil pass0 (pa_cons (pv 4) (pa_cons (pv 8) pa_nil))) (pe_call G1 (hr.mono (by decide)) rfl m1 k1 b1 .nil pass0 (pa_cons (pv 6) (pa_cons (pv 7) pa_nil)))))
    (pss_one (ps_dput (hu_of hr) (pv 3) (pe_op (op_addK (K := K)) (pv 4) (pv 8)) (pe_op (op_addK (K := K)) (pe_dget2 (hu_of hr) (pv 3) (pe_op (op_addK (K := K)) (pv 4) (pv 8)) pe_int ⟨rfl, rfl, rfl, rfl⟩) (pe_op (op_mulV (K := K)) (pv 5) (pv 9))) rfl))))))))
    (pss_one (ps_set (i := 1) sc_Task_ways.nd rfl (Or.inl rfl) (pv 3))))))
    (pss_one (ps_ret (pe_sumVals rfl (by rfl) T.n_sum (pv 1)))))), ?_⟩
  exact sim_def0 (body := b_Task_ways C) (ss_seq (ss_set se_disp1)
    (ss_seq (ss_for (si_rng1 (sa_e (se_cb p_len (sa_e (se_fld T.cl_Task T.at_Task_wanted) sa_nil)) sa_nil)) sg_name (ss_seq (ss_set se_dnew)
    (ss_seq (ss_items (sg_tup (sgs_cons (sgs_cons sgs_nil))) (ss_for (si_seqU (se_meth (sa_v sa_nil))) (sg_tup (sgs_cons (sgs_cons sgs_nil))) (ss_seq (ss_set (se_fz (se_op p_addU (sa_v (sa_v sa_nil)))))
    (ss_seq (ss_set (se_fz (se_op p_mulV (sa_e (se_call (sa_v (sa_v sa_nil))) (sa_e (se_call (sa_v (sa_v sa_nil))) sa_nil)))))
    (ss_dput (se_fz (se_op p_addU (sa_e (se_dget2 (se_op p_addU (sa_v (sa_v sa_nil))) se_int) (sa_e (se_op p_mulV (sa_v (sa_v sa_nil))) sa_nil)))) (se_op p_addU (sa_v (sa_v sa_nil))))))))
    (ss_set se_mov))))
    (ss_ret (se_sumV se_mov)))) rfl h
theorem c_task_of (T : Txt K mg C) : Cal P w K mg base CX0 6 "task_of" ["shelf", "goal"] (SpOf K 2 (d_task_of C)) := by
  obtain ⟨f, fd, hm, F⟩ := T.d_task_of
  obtain ⟨f0, fd0, G0, m0, k0, b0⟩ := (c_need_shelf (P := P) (w := w) (base := base) T).ex
  obtain ⟨f1, fd1, G1, m1, k1, b1⟩ := (c_need_goal (P := P) (w := w) (base := base) T).ex
  obtain ⟨f2, fd2, G2, M2, m2, b2⟩ := (c_Task_init (P := P) (w := w) (base := base) T).ex
  refine ⟨f, fd, F.ok (CX := CX0) sc_task_of (fun vs H Q E h => h.1) (fun cdv A outer s H vs Q E hr h => ?_), hm, F.kp, F.bindsN fun _ _ _ _ _ _ us hl => match us, hl with | [_, _], _ => rfl⟩
  refine ⟨_, PSs.nox (pss_cons (ps_expr (pe_call G0 (hr.mono (by decide)) rfl m0 k0 b0 .nil pass0 (pa_cons (pv 0) pa_nil)))
    (pss_cons (ps_expr (pe_call G1 (hr.mono (by decide)) rfl m1 k1 b1 .nil pass0 (pa_cons (pv 0) (pa_cons (pv 1) pa_nil))))
    (pss_one (ps_ret (pe_make M2 G2 (hr.mono (by decide)) rfl m2 b2 .nil pass0 (pa_cons (pv 0) (pa_cons (pv 1) pa_nil))))))), ?_⟩
  exact sim_def0 (body := b_task_of C) (ss_seq (ss_expr (se_call (sa_v sa_nil)))
    (ss_seq (ss_expr (se_call (sa_v (sa_v sa_nil))))
    (ss_ret (se_make (sa_v (sa_v sa_nil)))))) rfl h
theorem c_least (T : Txt K mg C) : Cal P w K mg base CX0 7 "least" ["shelf", "goal"] (SpOf K 2 (d_least C)) := by
  obtain ⟨f, fd, hm, F⟩ := T.d_least
  obtain ⟨f0, fd0, G0, m0, k0, b0⟩ := (c_task_of (P := P) (w := w) (base := base) T).ex
  obtain ⟨f1, fd1, G1, m1, b1⟩ := (c_Task_may (P := P) (w := w) (base := base) T).ex
  obtain ⟨f2, fd2, G2, m2, b2⟩ := (c_Task_cost (P := P) (w := w) (base := base) T).ex
  obtain ⟨f3, fd3, G3, m3, b3⟩ := (c_Task_way (P := P) (w := w) (base := base) T).ex
  refine ⟨f, fd, F.ok (CX := CX0) sc_least (fun vs H Q E h => h.1) (fun cdv A outer s H vs Q E hr h => ?_), hm, F.kp, F.bindsN fun _ _ _ _ _ _ us hl => match us, hl with | [_, _], _ => rfl⟩
  refine ⟨_, PSs.nox (pss_cons (ps_set (i := 2) sc_least.nd rfl (Or.inl rfl) (pe_call G0 (hr.mono (by decide)) rfl m0 k0 b0 .nil pass0 (pa_cons (pv 0) (pa_cons (pv 1) pa_nil))))
    (pss_one (ps_ret (pe_ifExp (pt_val (pe_meth0 (pv 2) T.cl_Task m1 G1 (hr.mono (by decide)) b1 .nil pass0)) (pe_tupN (pa_cons (pe_meth0 (pv 2) T.cl_Task m2 G2 (hr.mono (by decide)) b2 .nil pass0) (pa_cons (pe_meth0 (pv 2) T.cl_Task m3 G3 (hr.mono (by decide)) b3 .nil pass0) pa_nil))) pe_non)))), ?_⟩
  exact sim_def0 (body := b_least C) (ss_seq (ss_set (se_call (sa_v (sa_v sa_nil))))
    (ss_ret (se_if (st_val (se_meth sa_nil)) (se_tup (sa_e (se_meth sa_nil) (sa_e (se_meth sa_nil) sa_nil)) (Nat.le_of_ble_eq_true rfl)) se_non))) rfl h
theorem c_fewest (T : Txt K mg C) : Cal P w K mg base CX0 7 "fewest" ["shelf", "goal"] (SpOf K 2 (d_fewest C)) := by
  obtain ⟨f, fd, hm, F⟩ := T.d_fewest
  obtain ⟨f0, fd0, G0, m0, k0, b0⟩ := (c_task_of (P := P) (w := w) (base := base) T).ex
  obtain ⟨f1, fd1, G1, m1, b1⟩ := (c_Task_may (P := P) (w := w) (base := base) T).ex
  obtain ⟨f2, fd2, G2, m2, k2, b2⟩ := (c_longest (P := P) (w := w) (base := base) T).ex
  refine ⟨f, fd, F.ok (CX := CX0) sc_fewest (fun vs H Q E h => h.1) (fun cdv A outer s H vs Q E hr h => ?_), hm, F.kp, F.bindsN fun _ _ _ _ _ _ us hl => match us, hl with | [_, _], _ => rfl⟩
  refine ⟨_, PSs.nox (pss_cons (ps_set (i := 2) sc_fewest.nd rfl (Or.inl rfl) (pe_call G0 (hr.mono (by decide)) rfl m0 k0 b0 .nil pass0 (pa_cons (pv 0) (pa_cons (pv 1) pa_nil))))
    (pss_cons (ps_if (pt_not (pt_val (pe_meth0 (pv 2) T.cl_Task m1 G1 (hr.mono (by decide)) b1 .nil pass0))) (pss_one (ps_ret pe_non)) pss_nil)
    (pss_cons (ps_set (i := 3) sc_fewest.nd rfl (Or.inl rfl) (pe_callB (call_lenK (K := K)) (by rfl) T.n_len PySem.boot_len (pa_cons (pe_lc (own := [("price", 4)]) (by rfl) sc_fewest.nd (pi_seqK (K := K) (pe_ix (ix_K (K := K)) (pv 0) pe_int (fun _ _ => rfl))) (blkOk_by (by rfl)) (fun _ _ _ _ _ => (pg_name (i := 4) sc_fewest.nd rfl (.inl rfl))) (fun _ _ _ _ _ => (pts_one (pt_cmpR op_notN (pv 4) pe_non (nomark _)))) (fun _ _ _ _ _ => (pv 4))) pa_nil)))
    (pss_one (ps_ret (pe_op op_sub (pv 3) (pe_callB (call_sumU (K := K) rfl) (by rfl) T.n_sum (by decide +kernel) (pa_cons (pe_lc (own := [("number", 5)]) (by rfl) sc_fewest.nd (pi_range1 (by rfl) T.n_range (pa_cons (pe_callB (call_lenK (K := K)) (by rfl) T.n_len PySem.boot_len (pa_cons (pv 1) pa_nil)) pa_nil)) (blkOk_by (by rfl)) (fun _ _ _ _ _ => (pg_name (i := 5) sc_fewest.nd rfl (.inl rfl))) (fun _ _ _ _ _ => pts_nil) (fun _ _ _ _ _ => (pe_call G2 (hr.mono (by decide)) rfl m2 k2 b2 .nil pass0 (pa_cons (pv 0) (pa_cons (pv 5) (pa_cons (pv 1) pa_nil)))))) pa_nil)))))))), ?_⟩
  exact sim_def0 (body := b_fewest C) (ss_seq (ss_set (se_call (sa_v (sa_v sa_nil))))
    (ss_seq (ss_if (st_not (st_val (se_meth sa_nil))) (ss_ret se_non) ss_nx)
    (ss_seq (ss_set (se_cb p_len (sa_e (se_lc (own := [4]) (si_seqU (se_op p_ix (sa_v (sa_e se_int sa_nil)))) sgo_name (st_test (se_op p_notN (sa_v (sa_e se_non sa_nil)))) se_v) sa_nil)))
    (ss_ret (se_op p_I0 (sa_v (sa_e (se_cb p_sumU (sa_e (se_lc (own := [5]) (si_rng1 (sa_e (se_cb p_len (sa_v sa_nil)) sa_nil)) sgo_name st_yes (se_call (sa_v (sa_v (sa_v sa_nil))))) sa_nil)) sa_nil))))))) rfl h
theorem c_ways (T : Txt K mg C) : Cal P w K mg base CX0 7 "ways" ["shelf", "goal"] (SpOf K 2 (d_ways C)) := by
  obtain ⟨f, fd, hm, F⟩ := T.d_ways
  obtain ⟨f0, fd0, G0, m0, k0, b0⟩ := (c_task_of (P := P) (w := w) (base := base) T).ex
  obtain ⟨f1, fd1, G1, m1, b1⟩ := (c_Task_may (P := P) (w := w) (base := base) T).ex
  obtain ⟨f2, fd2, G2, m2, b2⟩ := (c_Task_ways (P := P) (w := w) (base := base) T).ex
  refine ⟨f, fd, F.ok (CX := CX0) sc_ways (fun vs H Q E h => h.1) (fun cdv A outer s H vs Q E hr h => ?_), hm, F.kp, F.bindsN fun _ _ _ _ _ _ us hl => match us, hl with | [_, _], _ => rfl⟩
  refine ⟨_, PSs.nox (pss_cons (ps_set (i := 2) sc_ways.nd rfl (Or.inl rfl) (pe_call G0 (hr.mono (by decide)) rfl m0 k0 b0 .nil pass0 (pa_cons (pv 0) (pa_cons (pv 1) pa_nil))))
    (pss_one (ps_ret (pe_ifExp (pt_val (pe_meth0 (pv 2) T.cl_Task m1 G1 (hr.mono (by decide)) b1 .nil pass0)) (pe_meth0 (pv 2) T.cl_Task m2 G2 (hr.mono (by decide)) b2 .nil pass0) pe_int)))), ?_⟩
  exact sim_def0 (body := b_ways C) (ss_seq (ss_set (se_call (sa_v (sa_v sa_nil))))
    (ss_ret (se_if (st_val (se_meth sa_nil)) (se_meth sa_nil) se_int))) rfl h
theorem c_judged (T : Txt K mg C) : Cal P w K mg base CX0 6 "judged" ["shelf", "goal", "deeds"] (SpOf K 3 (d_judged C)) := by
  obtain ⟨f, fd, hm, F⟩ := T.d_judged
  obtain ⟨f0, fd0, G0, m0, k0, b0⟩ := (c_need_shelf (P := P) (w := w) (base := base) T).ex
  obtain ⟨f1, fd1, G1, m1, k1, b1⟩ := (c_need_goal (P := P) (w := w) (base := base) T).ex
  obtain ⟨f2, fd2, G2, m2, k2, b2⟩ := (c_need_list (P := P) (w := w) (base := base) T).ex
  obtain ⟨f3, fd3, G3, m3, k3, b3⟩ := (c_behind (P := P) (w := w) (base := base) T).ex
  obtain ⟨f4, fd4, G4, m4, b4⟩ := (c_Task_cost (P := P) (w := w) (base := base) T).ex
  obtain ⟨f5, fd5, G5, M5, m5, b5⟩ := (c_Task_init (P := P) (w := w) (base := base) T).ex
  refine ⟨f, fd, F.ok (CX := CX0) sc_judged (fun vs H Q E h => h.1) (fun cdv A outer s H vs Q E hr h => ?_), hm, F.kp, F.bindsN fun _ _ _ _ _ _ us hl => match us, hl with | [_, _, _], _ => rfl⟩
  refine ⟨_, PSs.nox (pss_cons (ps_expr (pe_call G0 (hr.mono (by decide)) rfl m0 k0 b0 .nil pass0 (pa_cons (pv 0) pa_nil)))
    (pss_cons (ps_expr (pe_call G1 (hr.mono (by decide)) rfl m1 k1 b1 .nil pass0 (pa_cons (pv 0) (pa_cons (pv 1) pa_nil))))
    (pss_cons (ps_expr (pe_call G2 (hr.mono (by decide)) rfl m2 k2 b2 .nil pass0 (pa_cons (pv 2) pa_nil)))
    (pss_cons (ps_asg (pe_call G3 (hr.mono (by decide)) rfl m3 k3 b3 .nil pass0 (pa_cons (pv 0) (pa_cons (pv 2) pa_nil))) (pg_tupK (K := K) (n := 2) rfl (pgs_cons (pg_name (i := 3) sc_judged.nd rfl (.inl rfl)) (pgs_cons (pg_name (i := 4) sc_judged.nd rfl (.inl rfl)) pgs_nil))))
    (pss_one (ps_ret (pe_tupN (pa_cons (pe_cmpR (op_eqK (K := K) hr.units) (pv 3) (pv 1) (nomark _)) (pa_cons (pe_op op_sub (pv 4) (pe_meth0 (pe_make M5 G5 (hr.mono (by decide)) rfl m5 b5 .nil pass0 (pa_cons (pv 0) (pa_cons (pv 3) pa_nil))) T.cl_Task m4 G4 (hr.mono (by decide)) b4 .nil pass0)) pa_nil))))))))), ?_⟩
  exact sim_def0 (body := b_judged C) (ss_seq (ss_expr (se_call (sa_v sa_nil)))
    (ss_seq (ss_expr (se_call (sa_v (sa_v sa_nil))))
    (ss_seq (ss_expr (se_call (sa_v sa_nil)))
    (ss_seq (ss_asgG (se_call (sa_v (sa_v sa_nil))) (sg_tup (sgs_cons (sgs_cons sgs_nil))))
    (ss_ret (se_tup (sa_e (se_op p_eq (sa_v (sa_v sa_nil))) (sa_e (se_op p_I0 (sa_v (sa_e (se_methE (se_make (sa_v (sa_v sa_nil))) sa_nil) sa_nil))) sa_nil)) (Nat.le_of_ble_eq_true rfl))))))) rfl h
theorem c_w_start (T : Txt K mg C) : Cal P w K mg base CX0 1 "_law_start" ["_law_script"] (SpOf K 1 (d_w_start C)) := by
  obtain ⟨f, fd, hm, F⟩ := T.d_w_start
  refine ⟨f, fd, F.ok (CX := CX0) sc_w_start (fun vs H Q E h => h.1) (fun cdv A outer s H vs Q E hr h => ?_), hm, F.kp, F.bindsN fun _ _ _ _ _ _ us hl => match us, hl with | [_], _ => rfl⟩
  refine ⟨_, PSs.nox (pss_cons (ps_set (i := 1) sc_w_start.nd rfl (Or.inl rfl) pe_int)
    (pss_cons (ps_for PassesOwn.never rfl (pi_seqK (K := K) (pv 0)) (pg_name (i := 2) sc_w_start.nd rfl (.inl rfl)) (pss_one (ps_set (i := 1) sc_w_start.nd rfl (Or.inl rfl) (pe_op op_mod (pe_op (op_addK (K := K)) (pe_op (op_addK (K := K)) (pe_op (op_mulV (K := K)) (pv 1) pe_int) (pv 2)) pe_int) pe_int))))
    (pss_one (ps_ret (pe_lst (pa_cons (pv 0) (pa_cons pe_int (pa_cons (pv 1) (pa_cons pe_int pa_nil))))))))), ?_⟩
  exact sim_def0 (body := b_w_start C) (ss_seq (ss_set se_int)
    (ss_seq (ss_for (si_seqU se_v) sg_name (ss_set (se_op p_mod (sa_e (se_op p_addU (sa_e (se_op p_addU (sa_e (se_op p_mulV (sa_v (sa_e se_int sa_nil))) (sa_v sa_nil))) (sa_e se_int sa_nil))) (sa_e se_int sa_nil)))))
    (ss_ret (se_lst (sa_v (sa_e se_int (sa_v (sa_e se_int sa_nil)))) (Nat.le_of_ble_eq_true rfl))))) rfl h
theorem c_w_drawn (T : Txt K mg C) : Cal P w K mg base CX0 1 "_law_drawn" ["_law_state", "_law_many"] (SpOf K 2 (d_w_drawn C)) := by
  obtain ⟨f, fd, hm, F⟩ := T.d_w_drawn
  refine ⟨f, fd, F.ok (CX := CX0) sc_w_drawn (fun vs H Q E h => h.1) (fun cdv A outer s H vs Q E hr h => ?_), hm, F.kp, F.bindsN fun _ _ _ _ _ _ us hl => match us, hl with | [_, _], _ => rfl⟩
  refine ⟨_, PSs.nox (pss_cons (ps_if (pt_cmpR op_gt (pe_ix (ix_K (K := K)) (pv 0) pe_int (fun _ _ => rfl)) pe_int (nomark _)) (pss_cons (ps_set (i := 2) sc_w_drawn.nd rfl (Or.inl rfl) (pe_op op_mod (pe_ix (ix_K (K := K)) (pv 0) pe_int (fun _ _ => rfl)) (pv 1)))
    (pss_cons (ps_asg (pe_op op_fdiv (pe_ix (ix_K (K := K)) (pv 0) pe_int (fun _ _ => rfl)) (pv 1)) (pg_sub (pv 0) pe_int set_list))
    (pss_one (ps_ret (pv 2))))) pss_nil)
    (pss_cons (ps_asg (pe_op (op_addK (K := K)) (pe_ix (ix_K (K := K)) (pv 0) pe_int (fun _ _ => rfl)) pe_int) (pg_sub (pv 0) pe_int set_list))
    (pss_cons (ps_if (pt_cmpR op_le (pe_ix (ix_K (K := K)) (pv 0) pe_int (fun _ _ => rfl)) (pe_callB (call_lenK (K := K)) (by rfl) T.n_len PySem.boot_len (pa_cons (pe_ix (ix_K (K := K)) (pv 0) pe_int (fun _ _ => rfl)) pa_nil)) (nomark _)) (pss_cons (ps_set (i := 3) sc_w_drawn.nd rfl (Or.inl rfl) (pe_ix (ix_K (K := K)) (pe_ix (ix_K (K := K)) (pv 0) pe_int (fun _ _ => rfl)) (pe_op op_sub (pe_ix (ix_K (K := K)) (pv 0) pe_int (fun _ _ => rfl)) pe_int) (fun _ _ => rfl)))
    (pss_cons (ps_asg (pe_ifExp (pt_cmpR op_ge (pv 3) (pe_op op_pow pe_int pe_int) (nomark _)) (pe_op op_fdiv (pv 3) (pv 1)) pe_int) (pg_sub (pv 0) pe_int set_list))
    (pss_one (ps_ret (pe_op op_mod (pv 3) (pv 1)))))) pss_nil)
    (pss_cons (ps_asg (pe_op op_mod (pe_op (op_addK (K := K)) (pe_op (op_mulV (K := K)) (pe_ix (ix_K (K := K)) (pv 0) pe_int (fun _ _ => rfl)) pe_int) pe_int) pe_int) (pg_sub (pv 0) pe_int set_list))
    (pss_one (ps_ret (pe_op op_mod (pe_op op_fdiv (pe_ix (ix_K (K := K)) (pv 0) pe_int (fun _ _ => rfl)) pe_int) (pv 1)))))))), ?_⟩
  exact sim_def0 (body := b_w_drawn C) (ss_seq (ss_if (st_test (se_op p_IB (sa_e (se_op p_ix (sa_v (sa_e se_int sa_nil))) (sa_e se_int sa_nil)))) (ss_seq (ss_set (se_op p_mod (sa_e (se_op p_ix (sa_v (sa_e se_int sa_nil))) (sa_v sa_nil))))
    (ss_seq (ss_setIx (se_op p_div (sa_e (se_op p_ix (sa_v (sa_e se_int sa_nil))) (sa_v sa_nil))) se_int)
    (ss_ret se_v))) ss_nx)
    (ss_seq (ss_setIx (se_fz (se_op p_addU (sa_e (se_op p_ix (sa_v (sa_e se_int sa_nil))) (sa_e se_int sa_nil)))) se_int)
    (ss_seq (ss_if (st_test (se_op p_IB (sa_e (se_op p_ix (sa_v (sa_e se_int sa_nil))) (sa_e (se_cb p_len (sa_e (se_op p_ix (sa_v (sa_e se_int sa_nil))) sa_nil)) sa_nil)))) (ss_seq (ss_set (se_op p_ix (sa_e (se_op p_ix (sa_v (sa_e se_int sa_nil))) (sa_e (se_op p_I0 (sa_e (se_op p_ix (sa_v (sa_e se_int sa_nil))) (sa_e se_int sa_nil))) sa_nil))))
    (ss_seq (ss_setIx (se_if (st_test (se_op p_IB (sa_v (sa_e (se_op p_pow (sa_e se_int (sa_e se_int sa_nil))) sa_nil)))) (se_op p_div (sa_v (sa_v sa_nil))) se_int) se_int)
    (ss_ret (se_op p_mod (sa_v (sa_v sa_nil)))))) ss_nx)
    (ss_seq (ss_setIx (se_op p_mod (sa_e (se_op p_addU (sa_e (se_op p_mulV (sa_e (se_op p_ix (sa_v (sa_e se_int sa_nil))) (sa_e se_int sa_nil))) (sa_e se_int sa_nil))) (sa_e se_int sa_nil))) se_int)
    (ss_ret (se_op p_mod (sa_e (se_op p_div (sa_e (se_op p_ix (sa_v (sa_e se_int sa_nil))) (sa_e se_int sa_nil))) (sa_v sa_nil)))))))) rfl h
theorem c_w_turned (T : Txt K mg C) : Cal P w K mg base CX0 2 "_law_turned" ["_law_state", "_law_many"] (SpOf K 2 (d_w_turned C)) := by
  obtain ⟨f, fd, hm, F⟩ := T.d_w_turned
  obtain ⟨f0, fd0, G0, m0, k0, b0⟩ := (c_w_drawn (P := P) (w := w) (base := base) T).ex
  refine ⟨f, fd, F.ok (CX := CX0) sc_w_turned (fun vs H Q E h => h.1) (fun cdv A outer s H vs Q E hr h => ?_), hm, F.kp, F.bindsN fun _ _ _ _ _ _ us hl => match us, hl with | [_, _], _ => rfl⟩
  refine ⟨_, PSs.nox (pss_cons (ps_par (i := 2) (j := 3) (by rfl) sc_w_turned.nd rfl rfl (by decide) rfl rfl (pa_cons (pe_listRg rfl (by rfl) T.n_list (prg_1 (by rfl) T.n_range (pv 1))) (pa_cons (pe_lst pa_nil) pa_nil)) (by rfl))
    (pss_cons (ps_while PassesOwn.never (pt_cmpR (op_neK (K := K) hr.units) (pv 2) (pe_lst pa_nil) (nomark _)) (pss_one (ps_expr (pe_bmK (K := K) PySem.F.plainAttrs_list PySem.F.slot_list_append PySem.F.type_list_append mt_append (pv 3) (pa_cons (pe_bmK (K := K) PySem.F.plainAttrs_list PySem.F.slot_list_pop PySem.F.type_list_pop mt_popAt (pv 2) (pa_cons (pe_call G0 (hr.mono (by decide)) rfl m0 k0 b0 .nil pass0 (pa_cons (pv 0) (pa_cons (pe_callB (call_lenK (K := K)) (by rfl) T.n_len PySem.boot_len (pa_cons (pv 2) pa_nil)) pa_nil))) pa_nil)) pa_nil)))))
    (pss_one (ps_ret (pv 3))))), ?_⟩
  exact sim_def0 (body := b_w_turned C) (ss_seq (ss_par (se_lrng se_v) (se_lst sa_nil (Nat.le_of_ble_eq_true rfl)))
    (ss_seq (ss_while fuelW.1 (st_test (se_op p_ne (sa_v (sa_e (se_lst sa_nil (Nat.le_of_ble_eq_true rfl)) sa_nil)))) (ss_expr (se_mut p_app (sa_e (se_mut p_popAt (sa_e (se_call (sa_v (sa_e (se_cb p_len (sa_v sa_nil)) sa_nil))) sa_nil)) sa_nil))))
    (ss_ret (se_fz (se_mov))))) rfl h
theorem c_w_lots (T : Txt K mg C) : Cal P w K mg base CX0 3 "_law_lots" ["_law_state", "_law_many", "_law_lots_here"] (SpOf K 3 (d_w_lots C)) := by
  obtain ⟨f, fd, hm, F⟩ := T.d_w_lots
  obtain ⟨f0, fd0, G0, m0, k0, b0⟩ := (c_w_turned (P := P) (w := w) (base := base) T).ex
  obtain ⟨f1, fd1, G1, m1, k1, b1⟩ := (c_w_drawn (P := P) (w := w) (base := base) T).ex
  refine ⟨f, fd, F.ok (CX := CX0) sc_w_lots (fun vs H Q E h => h.1) (fun cdv A outer s H vs Q E hr h => ?_), hm, F.kp, F.bindsN fun _ _ _ _ _ _ us hl => match us, hl with | [_, _, _], _ => rfl⟩
  refine ⟨_, PSs.nox (pss_cons (ps_set (i := 3) sc_w_lots.nd rfl (Or.inl rfl) (pe_op (op_mulV (K := K)) (pe_lst (pa_cons (pe_tupN pa_nil) pa_nil)) (pv 2)))
    (pss_cons (ps_for PassesOwn.never rfl (pi_seqK (K := K) (pe_call G0 (hr.mono (by decide)) rfl m0 k0 b0 .nil pass0 (pa_cons (pv 0) (pa_cons (pv 1) pa_nil)))) (pg_name (i := 4) sc_w_lots.nd rfl (.inl rfl)) (pss_cons (ps_set (i := 5) sc_w_lots.nd rfl (Or.inl rfl) (pe_call G1 (hr.mono (by decide)) rfl m1 k1 b1 .nil pass0 (pa_cons (pv 0) (pa_cons (pv 2) pa_nil))))
    (pss_one (ps_asg (pe_op (op_addK (K := K)) (pe_ix (ix_K (K := K)) (pv 3) (pv 5) (fun _ _ => rfl)) (pe_tupN (pa_cons (pv 4) pa_nil))) (pg_sub (pv 3) (pv 5) set_list)))))
    (pss_one (ps_ret (pe_callTy (call_tupleK (K := K)) (by rfl) T.n_tuple (by decide +kernel) (pa_cons (pv 3) pa_nil)))))), ?_⟩
  exact sim_def0 (body := b_w_lots C) (ss_seq (ss_set (se_op p_mulV (sa_e (se_lst (sa_e (se_tup sa_nil (Nat.le_of_ble_eq_true rfl)) sa_nil) (Nat.le_of_ble_eq_true rfl)) (sa_v sa_nil))))
    (ss_seq (ss_for (si_seqU (se_call (sa_v (sa_v sa_nil)))) sg_name (ss_seq (ss_set (se_call (sa_v (sa_v sa_nil))))
    (ss_setIx (se_fz (se_op p_addU (sa_e (se_op p_ix (sa_v (sa_v sa_nil))) (sa_e (se_tup (sa_v sa_nil) (Nat.le_of_ble_eq_true rfl)) sa_nil)))) se_v)))
    (ss_ret (se_cb p_tuple (sa_v sa_nil))))) rfl h
theorem c_w_shelf (T : Txt K mg C) : Cal P w K mg base CX0 4 "_law_shelf" ["_law_state", "_law_most", "_law_lots_here"] (SpOf K 3 (d_w_shelf C)) := by
  obtain ⟨f, fd, hm, F⟩ := T.d_w_shelf
  obtain ⟨f0, fd0, G0, m0, k0, b0⟩ := (c_w_drawn (P := P) (w := w) (base := base) T).ex
  obtain ⟨f1, fd1, G1, m1, k1, b1⟩ := (c_w_lots (P := P) (w := w) (base := base) T).ex
  refine ⟨f, fd, F.ok (CX := CX0) sc_w_shelf (fun vs H Q E h => h.1) (fun cdv A outer s H vs Q E hr h => ?_), hm, F.kp, F.bindsN fun _ _ _ _ _ _ us hl => match us, hl with | [_, _, _], _ => rfl⟩
  refine ⟨_, PSs.nox (pss_cons (ps_asg (pe_tup (pa_cons (pe_op (op_addK (K := K)) pe_int (pe_call G0 (hr.mono (by decide)) rfl m0 k0 b0 .nil pass0 (pa_cons (pv 0) (pa_cons (pv 1) pa_nil)))) (pa_cons (pe_ix (ix_K (K := K)) (pe_lst (pa_cons pe_int (pa_cons pe_int (pa_cons pe_int pa_nil)))) (pe_call G0 (hr.mono (by decide)) rfl m0 k0 b0 .nil pass0 (pa_cons (pv 0) (pa_cons pe_int pa_nil))) (fun _ _ => rfl)) pa_nil))) (pg_tupK (K := K) (n := 2) rfl (pgs_cons (pg_name (i := 3) sc_w_shelf.nd rfl (.inl rfl)) (pgs_cons (pg_name (i := 4) sc_w_shelf.nd rfl (.inr rfl)) pgs_nil))))
    (pss_cons (ps_set (i := 5) sc_w_shelf.nd rfl (Or.inr rfl) (pe_ix (ix_K (K := K)) (pe_lst (pa_cons pe_int (pa_cons pe_int (pa_cons pe_int pa_nil)))) (pe_call G0 (hr.mono (by decide)) rfl m0 k0 b0 .nil pass0 (pa_cons (pv 0) (pa_cons pe_int pa_nil))) (fun _ _ => rfl)))
    (pss_cons (ps_set (i := 6) sc_w_shelf.nd rfl (Or.inl rfl) (pe_callTy (call_tupleK (K := K)) (by rfl) T.n_tuple (by decide +kernel) (pa_cons (pe_lc (own := [("_law_k", 7)]) (by rfl) sc_w_shelf.nd (pi_range1 (by rfl) T.n_range (pa_cons (pv 3) pa_nil)) (blkOk_by (by rfl)) (fun _ _ _ _ _ => (pg_name (i := 7) sc_w_shelf.nd rfl (.inl rfl))) (fun _ _ _ _ _ => pts_nil) (fun _ _ _ _ _ => (pe_ifExp (pt_cmpR (op_eqK (K := K) hr.units) (pe_call G0 (hr.mono (by decide)) rfl m0 k0 b0 .nil pass0 (pa_cons (pv 0) (pa_cons (pv 5) pa_nil))) pe_int (nomark _)) pe_non (pe_op (op_addK (K := K)) pe_int (pe_call G0 (hr.mono (by decide)) rfl m0 k0 b0 .nil pass0 (pa_cons (pv 0) (pa_cons (pv 4) pa_nil))))))) pa_nil)))
    (pss_one (ps_ret (pe_tupN (pa_cons (pv 6) (pa_cons (pe_call G1 (hr.mono (by decide)) rfl m1 k1 b1 .nil pass0 (pa_cons (pv 0) (pa_cons (pv 3) (pa_cons (pe_op (op_addK (K := K)) pe_int (pe_call G0 (hr.mono (by decide)) rfl m0 k0 b0 .nil pass0 (pa_cons (pv 0) (pa_cons (pv 2) pa_nil)))) pa_nil)))) pa_nil)))))))), ?_⟩
  exact sim_def0 (body := b_w_shelf C) (ss_seq (ss_tupasg2 (se_fz (se_op p_addU (sa_e se_int (sa_e (se_call (sa_v (sa_v sa_nil))) sa_nil)))) (se_op p_ix (sa_e (se_lst (sa_e se_int (sa_e se_int (sa_e se_int sa_nil))) (Nat.le_of_ble_eq_true rfl)) (sa_e (se_call (sa_v (sa_e se_int sa_nil))) sa_nil))))
    (ss_seq (ss_set (se_op p_ix (sa_e (se_lst (sa_e se_int (sa_e se_int (sa_e se_int sa_nil))) (Nat.le_of_ble_eq_true rfl)) (sa_e (se_call (sa_v (sa_e se_int sa_nil))) sa_nil))))
    (ss_seq (ss_set (se_cb p_tuple (sa_e (se_lc (own := [7]) (si_rng1 (sa_v sa_nil)) sgo_name st_yes (se_fz (se_if (st_test (se_op p_eq (sa_e (se_call (sa_v (sa_v sa_nil))) (sa_e se_int sa_nil)))) se_non (se_fz (se_op p_addU (sa_e se_int (sa_e (se_call (sa_v (sa_v sa_nil))) sa_nil))))))) sa_nil)))
    (ss_ret (se_tup (sa_v (sa_e (se_call (sa_v (sa_v (sa_e (se_fz (se_op p_addU (sa_e se_int (sa_e (se_call (sa_v (sa_v sa_nil))) sa_nil)))) sa_nil)))) sa_nil)) (Nat.le_of_ble_eq_true rfl)))))) rfl h
theorem c_w_placed (T : Txt K mg C) : Cal P w K mg base CX0 1 "_law_placed" ["_law_lots_here", "_law_book", "_law_number", "_law_end"] (SpOf K 4 (d_w_placed C)) := by
  obtain ⟨f, fd, hm, F⟩ := T.d_w_placed
  refine ⟨f, fd, F.ok (CX := CX0) sc_w_placed (fun vs H Q E h => h.1) (fun cdv A outer s H vs Q E hr h => ?_), hm, F.kp, F.bindsN fun _ _ _ _ _ _ us hl => match us, hl with | [_, _, _, _], _ => rfl⟩
  refine ⟨_, PSs.nox (pss_cons (ps_setLc (i := 4) (own := [("_law_lot", 5)]) (by rfl) sc_w_placed.nd rfl rfl (sw_true rfl rfl rfl (by rfl)) (pi_seqK (K := K) (pv 0)) (blkOk_by (by rfl)) (fun _ _ _ _ _ => (pg_name (i := 5) sc_w_placed.nd rfl (.inl rfl))) (fun _ _ _ _ _ => pts_nil) (fun _ _ _ _ _ => (pe_callTy (call_tupleK (K := K)) (by rfl) T.n_tuple (by decide +kernel) (pa_cons (pe_lc (own := [("_law_one", 6)]) (by rfl) sc_w_placed.nd (pi_seqK (K := K) (pv 5)) (blkOk_by (by rfl)) (fun _ _ _ _ _ => (pg_name (i := 6) sc_w_placed.nd rfl (.inl rfl))) (fun _ _ _ _ _ => (pts_one (pt_cmpR (op_neK (K := K) hr.units) (pv 6) (pv 1) (nomark _)))) (fun _ _ _ _ _ => (pv 6))) pa_nil))))
    (pss_cons (ps_asg (pe_ifExp (pt_cmpR (op_eqK (K := K) hr.units) (pv 3) pe_str (nomark _)) (pe_op (op_addK (K := K)) (pe_tupN (pa_cons (pv 1) pa_nil)) (pe_ix (ix_K (K := K)) (pv 4) (pv 2) (fun _ _ => rfl))) (pe_op (op_addK (K := K)) (pe_ix (ix_K (K := K)) (pv 4) (pv 2) (fun _ _ => rfl)) (pe_tupN (pa_cons (pv 1) pa_nil)))) (pg_sub (pv 4) (pv 2) set_list))
    (pss_one (ps_ret (pe_callTy (call_tupleK (K := K)) (by rfl) T.n_tuple (by decide +kernel) (pa_cons (pv 4) pa_nil)))))), ?_⟩
  exact sim_def0 (body := b_w_placed C) (ss_seq (ss_set (se_lc (own := [5]) (si_seqU se_v) sgo_name st_yes (se_cb p_tuple (sa_e (se_lc (own := [6]) (si_seqU se_v) sgo_name (st_test (se_op p_ne (sa_v (sa_v sa_nil)))) se_v) sa_nil))))
    (ss_seq (ss_setIx (se_fz (se_if (st_test (se_op p_eq (sa_v (sa_e se_str sa_nil)))) (se_fz (se_op p_addU (sa_e (se_tup (sa_v sa_nil) (Nat.le_of_ble_eq_true rfl)) (sa_e (se_op p_ix (sa_v (sa_v sa_nil))) sa_nil)))) (se_fz (se_op p_addU (sa_e (se_op p_ix (sa_v (sa_v sa_nil))) (sa_e (se_tup (sa_v sa_nil) (Nat.le_of_ble_eq_true rfl)) sa_nil)))))) se_v)
    (ss_ret (se_cb p_tuple (sa_v sa_nil))))) rfl h
theorem c_w_goal (T : Txt K mg C) : Cal P w K mg base CX0 4 "_law_goal" ["_law_state", "_law_shelf_here"] (SpOf K 2 (d_w_goal C)) := by
  obtain ⟨f, fd, hm, F⟩ := T.d_w_goal
  obtain ⟨f0, fd0, G0, m0, k0, b0⟩ := (c_w_drawn (P := P) (w := w) (base := base) T).ex
  obtain ⟨f1, fd1, G1, m1, k1, b1⟩ := (c_w_lots (P := P) (w := w) (base := base) T).ex
  obtain ⟨f2, fd2, G2, m2, k2, b2⟩ := (c_w_placed (P := P) (w := w) (base := base) T).ex
  refine ⟨f, fd, F.ok (CX := CX0) sc_w_goal (fun vs H Q E h => h.1) (fun cdv A outer s H vs Q E hr h => ?_), hm, F.kp, F.bindsN fun _ _ _ _ _ _ us hl => match us, hl with | [_, _], _ => rfl⟩
  refine ⟨_, PSs.nox (pss_cons (ps_asg (pv 1) (pg_tupK (K := K) (n := 2) rfl (pgs_cons (pg_name (i := 2) sc_w_goal.nd rfl (.inl rfl)) (pgs_cons (pg_name (i := 3) sc_w_goal.nd rfl (.inl rfl)) pgs_nil))))
    (pss_cons (ps_set (i := 4) sc_w_goal.nd rfl (Or.inl rfl) (pe_call G0 (hr.mono (by decide)) rfl m0 k0 b0 .nil pass0 (pa_cons (pv 0) (pa_cons pe_int pa_nil))))
    (pss_cons (ps_if (pt_cmpR (op_eqK (K := K) hr.units) (pv 4) pe_int (nomark _)) (pss_one (ps_ret (pe_call G1 (hr.mono (by decide)) rfl m1 k1 b1 .nil pass0 (pa_cons (pv 0) (pa_cons (pe_callB (call_lenK (K := K)) (by rfl) T.n_len PySem.boot_len (pa_cons (pv 2) pa_nil)) (pa_cons (pe_callB (call_lenK (K := K)) (by rfl) T.n_len PySem.boot_len (pa_cons (pv 3) pa_nil)) pa_nil)))))) pss_nil)
    (pss_cons (ps_for PassesOwn.never rfl (pi_range1 (by rfl) T.n_range (pa_cons (pe_call G0 (hr.mono (by decide)) rfl m0 k0 b0 .nil pass0 (pa_cons (pv 0) (pa_cons (pe_ix (ix_K (K := K)) (pe_lst (pa_cons pe_int (pa_cons (pe_op (op_addK (K := K)) (pe_op (op_mulV (K := K)) pe_int (pe_callB (call_lenK (K := K)) (by rfl) T.n_len PySem.boot_len (pa_cons (pv 2) pa_nil))) pe_int) pa_nil))) (pe_call G0 (hr.mono (by decide)) rfl m0 k0 b0 .nil pass0 (pa_cons (pv 0) (pa_cons pe_int pa_nil))) (fun _ _ => rfl)) pa_nil))) pa_nil)) (pg_name (i := 5) sc_w_goal.nd rfl (.inl rfl)) (pss_cons (ps_par (i := 6) (j := 7) (by rfl) sc_w_goal.nd rfl rfl (by decide) rfl rfl (pa_cons (pe_call G0 (hr.mono (by decide)) rfl m0 k0 b0 .nil pass0 (pa_cons (pv 0) (pa_cons (pe_callB (call_lenK (K := K)) (by rfl) T.n_len PySem.boot_len (pa_cons (pv 2) pa_nil)) pa_nil))) (pa_cons (pe_call G0 (hr.mono (by decide)) rfl m0 k0 b0 .nil pass0 (pa_cons (pv 0) (pa_cons (pe_callB (call_lenK (K := K)) (by rfl) T.n_len PySem.boot_len (pa_cons (pv 3) pa_nil)) pa_nil))) pa_nil)) (by rfl))
    (pss_one (ps_if (PW.pt (pw_or (pt_cmpR op_notN (pe_ix (ix_K (K := K)) (pv 2) (pv 6) (fun _ _ => rfl)) pe_non (nomark _)) (pw_or1 (PW.pt (pw_and (pt_cmpR (op_eqK (K := K) hr.units) (pv 4) pe_int (nomark _)) (pw_and1 (pt_cmpR (op_eqK (K := K) hr.units) (pv 5) pe_int (nomark _)))))))) (pss_one (ps_set (i := 3) sc_w_goal.nd rfl (Or.inl rfl) (pe_call G2 (hr.mono (by decide)) rfl m2 k2 b2 .nil pass0 (pa_cons (pv 3) (pa_cons (pv 6) (pa_cons (pv 7) (pa_cons (pe_ix (ix_K (K := K)) (pe_lst (pa_cons pe_str (pa_cons pe_str pa_nil))) (pe_call G0 (hr.mono (by decide)) rfl m0 k0 b0 .nil pass0 (pa_cons (pv 0) (pa_cons pe_int pa_nil))) (fun _ _ => rfl)) pa_nil))))))) pss_nil))))
    (pss_one (ps_ret (pv 3))))))), ?_⟩
  exact sim_def0 (body := b_w_goal C) (ss_seq (ss_asgG se_v (sg_tup (sgs_cons (sgs_cons sgs_nil))))
    (ss_seq (ss_set (se_call (sa_v (sa_e se_int sa_nil))))
    (ss_seq (ss_if (st_test (se_op p_eq (sa_v (sa_e se_int sa_nil)))) (ss_ret (se_call (sa_v (sa_e (se_cb p_len (sa_v sa_nil)) (sa_e (se_cb p_len (sa_v sa_nil)) sa_nil))))) ss_nx)
    (ss_seq (ss_for (si_rng1 (sa_e (se_call (sa_v (sa_e (se_op p_ix (sa_e (se_lst (sa_e se_int (sa_e (se_fz (se_op p_addU (sa_e (se_op p_mulV (sa_e se_int (sa_e (se_cb p_len (sa_v sa_nil)) sa_nil))) (sa_e se_int sa_nil)))) sa_nil)) (Nat.le_of_ble_eq_true rfl)) (sa_e (se_call (sa_v (sa_e se_int sa_nil))) sa_nil))) sa_nil))) sa_nil)) sg_name (ss_seq (ss_par (se_call (sa_v (sa_e (se_cb p_len (sa_v sa_nil)) sa_nil))) (se_call (sa_v (sa_e (se_cb p_len (sa_v sa_nil)) sa_nil))))
    (ss_if (st_or (st_test (se_op p_notN (sa_e (se_op p_ix (sa_v (sa_v sa_nil))) (sa_e se_non sa_nil)))) (st_and (st_test (se_op p_eq (sa_v (sa_e se_int sa_nil)))) (st_test (se_op p_eq (sa_v (sa_e se_int sa_nil)))))) (ss_set (se_call (sa_v (sa_v (sa_v (sa_e (se_op p_ix (sa_e (se_lst (sa_e se_str (sa_e se_str sa_nil)) (Nat.le_of_ble_eq_true rfl)) (sa_e (se_call (sa_v (sa_e se_int sa_nil))) sa_nil))) sa_nil)))))) ss_nx)))
    (ss_ret se_v))))) rfl h
theorem c_w_judged_so (T : Txt K mg C) : Cal P w K mg base CX0 8 "_law_judged_so" ["_law_state", "_law_shelf_here", "_law_goal_here"] (SpOf K 3 (d_w_judged_so C)) := by
  obtain ⟨f, fd, hm, F⟩ := T.d_w_judged_so
  obtain ⟨f0, fd0, G0, m0, k0, b0⟩ := (c_w_drawn (P := P) (w := w) (base := base) T).ex
  obtain ⟨f1, fd1, G1, m1, k1, b1⟩ := (c_w_placed (P := P) (w := w) (base := base) T).ex
  obtain ⟨f2, fd2, G2, m2, k2, b2⟩ := (c_done (P := P) (w := w) (base := base) T).ex
  obtain ⟨f3, fd3, G3, m3, k3, b3⟩ := (c_judged (P := P) (w := w) (base := base) T).ex
  obtain ⟨f4, fd4, G4, m4, k4, b4⟩ := (c_least (P := P) (w := w) (base := base) T).ex
  refine ⟨f, fd, F.ok (CX := CX0) sc_w_judged_so (fun vs H Q E h => h.1) (fun cdv A outer s H vs Q E hr h => ?_), hm, F.kp, F.bindsN fun _ _ _ _ _ _ us hl => match us, hl with | [_, _, _], _ => rfl⟩
  refine ⟨_, PSs.nox (pss_cons (ps_par (i := 3) (j := 4) (by rfl) sc_w_judged_so.nd rfl rfl (by decide) rfl rfl (pa_cons (pe_ix (ix_K (K := K)) (pv 1) pe_int (fun _ _ => rfl)) (pa_cons (pe_lst pa_nil) pa_nil)) (by rfl))
    (pss_cons (ps_for PassesOwn.never rfl (pi_range1 (by rfl) T.n_range (pa_cons (pe_call G0 (hr.mono (by decide)) rfl m0 k0 b0 .nil pass0 (pa_cons (pv 0) (pa_cons pe_int pa_nil))) pa_nil)) (pg_name (i := 5) sc_w_judged_so.nd rfl (.inl rfl)) (pss_cons (ps_par (i := 6) (j := 7) (by rfl) sc_w_judged_so.nd rfl rfl (by decide) rfl rfl (pa_cons (pe_call G0 (hr.mono (by decide)) rfl m0 k0 b0 .nil pass0 (pa_cons (pv 0) (pa_cons (pe_callB (call_lenK (K := K)) (by rfl) T.n_len PySem.boot_len (pa_cons (pe_ix (ix_K (K := K)) (pv 1) pe_int (fun _ _ => rfl)) pa_nil)) pa_nil))) (pa_cons (pe_call G0 (hr.mono (by decide)) rfl m0 k0 b0 .nil pass0 (pa_cons (pv 0) (pa_cons (pe_callB (call_lenK (K := K)) (by rfl) T.n_len PySem.boot_len (pa_cons (pv 3) pa_nil)) pa_nil))) pa_nil)) (by rfl))
    (pss_cons (ps_set (i := 8) sc_w_judged_so.nd rfl (Or.inl rfl) (pe_ix (ix_K (K := K)) (pe_lst (pa_cons pe_str (pa_cons pe_str pa_nil))) (pe_call G0 (hr.mono (by decide)) rfl m0 k0 b0 .nil pass0 (pa_cons (pv 0) (pa_cons pe_int pa_nil))) (fun _ _ => rfl)))
    (pss_one (ps_if (pt_cmpR op_notN (pe_ix (ix_K (K := K)) (pe_ix (ix_K (K := K)) (pv 1) pe_int (fun _ _ => rfl)) (pv 6) (fun _ _ => rfl)) pe_non (nomark _)) (pss_cons (ps_expr (pe_bmK (K := K) PySem.F.plainAttrs_list PySem.F.slot_list_append PySem.F.type_list_append mt_append (pv 4) (pa_cons (pe_tupN (pa_cons (pv 6) (pa_cons (pv 7) (pa_cons (pv 8) pa_nil)))) pa_nil)))
    (pss_one (ps_set (i := 3) sc_w_judged_so.nd rfl (Or.inl rfl) (pe_call G1 (hr.mono (by decide)) rfl m1 k1 b1 .nil pass0 (pa_cons (pv 3) (pa_cons (pv 6) (pa_cons (pv 7) (pa_cons (pv 8) pa_nil)))))))) pss_nil)))))
    (pss_cons (ps_asg (pe_call G2 (hr.mono (by decide)) rfl m2 k2 b2 .nil pass0 (pa_cons (pv 1) (pa_cons (pv 4) pa_nil))) (pg_tupK (K := K) (n := 2) rfl (pgs_cons (pg_name (i := 9) sc_w_judged_so.nd rfl (.inl rfl)) (pgs_cons (pg_name (i := 10) sc_w_judged_so.nd rfl (.inl rfl)) pgs_nil))))
    (pss_cons (ps_set (i := 11) sc_w_judged_so.nd rfl (Or.inl rfl) (pe_call G3 (hr.mono (by decide)) rfl m3 k3 b3 .nil pass0 (pa_cons (pv 1) (pa_cons (pv 2) (pa_cons (pv 4) pa_nil)))))
    (pss_one (ps_ret (pe_and (pe_cmpR (op_eqK (K := K) hr.units) (pv 9) (pv 3) (nomark _)) (pe_and (pe_cmpR (op_eqK (K := K) hr.units) (pv 11) (pe_tupN (pa_cons (pe_cmpR (op_eqK (K := K) hr.units) (pv 9) (pv 2) (nomark _)) (pa_cons (pe_op op_sub (pv 10) (pe_ix (ix_K (K := K)) (pe_call G4 (hr.mono (by decide)) rfl m4 k4 b4 .nil pass0 (pa_cons (pv 1) (pa_cons (pv 9) pa_nil))) pe_int (fun _ _ => rfl))) pa_nil))) (nomark _)) (pe_one (pe_cmpR op_ge (pe_ix (ix_K (K := K)) (pv 11) pe_int (fun _ _ => rfl)) pe_int (nomark _))))))))))), ?_⟩
  exact sim_def0 (body := b_w_judged_so C) (ss_seq (ss_par (se_op p_ix (sa_v (sa_e se_int sa_nil))) (se_lst sa_nil (Nat.le_of_ble_eq_true rfl)))
    (ss_seq (ss_for (si_rng1 (sa_e (se_call (sa_v (sa_e se_int sa_nil))) sa_nil)) sg_name (ss_seq (ss_par (se_call (sa_v (sa_e (se_cb p_len (sa_e (se_op p_ix (sa_v (sa_e se_int sa_nil))) sa_nil)) sa_nil))) (se_call (sa_v (sa_e (se_cb p_len (sa_v sa_nil)) sa_nil))))
    (ss_seq (ss_set (se_op p_ix (sa_e (se_lst (sa_e se_str (sa_e se_str sa_nil)) (Nat.le_of_ble_eq_true rfl)) (sa_e (se_call (sa_v (sa_e se_int sa_nil))) sa_nil))))
    (ss_if (st_test (se_op p_notN (sa_e (se_op p_ix (sa_e (se_op p_ix (sa_v (sa_e se_int sa_nil))) (sa_v sa_nil))) (sa_e se_non sa_nil)))) (ss_seq (ss_expr (se_mut p_app (sa_e (se_tup (sa_v (sa_v (sa_v sa_nil))) (Nat.le_of_ble_eq_true rfl)) sa_nil)))
    (ss_set (se_call (sa_v (sa_v (sa_v (sa_v sa_nil))))))) ss_nx))))
    (ss_seq (ss_frz (i := 4) (ss_asgG (se_call (sa_v (sa_v sa_nil))) (sg_tup (sgs_cons (sgs_cons sgs_nil)))))
    (ss_seq (ss_set (se_call (sa_v (sa_v (sa_v sa_nil)))))
    (ss_ret (se_and (se_op p_eq (sa_v (sa_v sa_nil))) (se_and (se_op p_eq (sa_v (sa_e (se_tup (sa_e (se_op p_eq (sa_v (sa_v sa_nil))) (sa_e (se_op p_I0 (sa_v (sa_e (se_op p_ix (sa_e (se_call (sa_v (sa_v sa_nil))) (sa_e se_int sa_nil))) sa_nil))) sa_nil)) (Nat.le_of_ble_eq_true rfl)) sa_nil))) (se_op p_IB (sa_e (se_op p_ix (sa_v (sa_e se_int sa_nil))) (sa_e se_int sa_nil)))))))))) rfl h
theorem c_Task_wayO (T : Txt K mg C) : CalM P w K mg base CX0 2 (C "Task") "way" ["self"] (SpOf K 1 (d_Task_wayO C)) := by
  obtain ⟨f, fd, hm, F⟩ := T.d_Task_way
  obtain ⟨f0, fd0, G0, m0, b0⟩ := (c_Task_chosen (P := P) (w := w) (base := base) T).ex
  refine ⟨f, fd, F.ok (CX := CX0) sc_Task_way (fun vs H Q E h => h.1) (fun cdv A outer s H vs Q E hr h => ?_), hm, F.bindsN fun _ _ _ _ _ _ us hl => match us, hl with | [_], _ => rfl⟩
  refine ⟨_, PSs.nox (pss_cons (ps_set (i := 1) sc_Task_way.nd rfl (Or.inl rfl) (pe_lst pa_nil))
    (pss_cons (ps_for PassesOwn.never rfl (pi_enumK (K := K) (by rfl) T.n_enumerate (pa_cons (pe_fldK (K := K) (pv 0) rfl) pa_nil)) (pg_tupK (K := K) (n := 2) rfl (pgs_cons (pg_name (i := 2) sc_Task_way.nd rfl (.inr rfl)) (pgs_cons (pg_name (i := 3) sc_Task_way.nd rfl (.inl rfl)) pgs_nil))) (pss_cons (ps_asg (pe_meth (pv 0) T.cl_Task m0 G0 (hr.mono (by decide)) b0 .nil pass0 (pa_cons (pv 2) pa_nil)) (pg_tupK (K := K) (n := 2) rfl (pgs_cons (pg_name (i := 4) sc_Task_way.nd rfl (.inl rfl)) (pgs_cons (pg_name (i := 5) sc_Task_way.nd rfl (.inl rfl)) pgs_nil))))
    (pss_cons (ps_expr (pe_bmK (K := K) PySem.F.plainAttrs_list PySem.F.slot_list_extend PySem.F.type_list_extend mt_extend (pv 1) (pa_cons (pe_lc (own := [("book", 6)]) (by rfl) sc_Task_way.nd (pi_seqK (K := K) (pe_revS (K := K) (pe_slice (sl_K (K := K)) (pv 3) po_none (po_some (pv 4))) (po_some (pe_un un_neg pe_int)))) (blkOk_by (by rfl)) (fun _ _ _ _ _ => (pg_name (i := 6) sc_Task_way.nd rfl (.inl rfl))) (fun _ _ _ _ _ => pts_nil) (fun _ _ _ _ _ => (pe_tupN (pa_cons (pv 6) (pa_cons (pv 2) (pa_cons (pe_glob (v := .str "first") rfl T.k_FIRST.choose_spec ⟨_, rfl⟩) pa_nil)))))) pa_nil)))
    (pss_one (ps_expr (pe_bmK (K := K) PySem.F.plainAttrs_list PySem.F.slot_list_extend PySem.F.type_list_extend mt_extend (pv 1) (pa_cons (pe_lc (own := [("book", 6)]) (by rfl) sc_Task_way.nd (pi_seqK (K := K) (pe_slice (sl_K (K := K)) (pv 3) (po_some (pv 5)) po_none)) (blkOk_by (by rfl)) (fun _ _ _ _ _ => (pg_name (i := 6) sc_Task_way.nd rfl (.inl rfl))) (fun _ _ _ _ _ => pts_nil) (fun _ _ _ _ _ => (pe_tupN (pa_cons (pv 6) (pa_cons (pv 2) (pa_cons (pe_glob (v := .str "last") rfl T.k_LAST.choose_spec ⟨_, rfl⟩) pa_nil)))))) pa_nil)))))))
    (pss_one (ps_ret (pv 1))))), ?_⟩
  exact sim_def0 (body := b_Task_wayO C) (ss_seq (ss_set (se_lst sa_nil (Nat.le_of_ble_eq_true rfl)))
    (ss_seq (ss_for (si_enumU (se_fld T.cl_Task T.at_Task_wanted)) (sg_tup (sgs_cons (sgs_cons sgs_nil))) (ss_seq (ss_asgG (se_meth (sa_v sa_nil)) (sg_tup (sgs_cons (sgs_cons sgs_nil))))
    (ss_seq (ss_expr (se_mut p_ext (sa_e (se_lc (own := [6]) (si_seqU (se_rev (sim_sl p_slU sp_no (sp_e se_v)) (se_un p_un (sa_e se_int sa_nil)))) sgo_name st_yes (se_tup (sa_v (sa_v (sa_e se_str sa_nil))) (Nat.le_of_ble_eq_true rfl))) sa_nil)))
    (ss_expr (se_mut p_ext (sa_e (se_lc (own := [6]) (si_seqU (sim_sl p_slU (sp_e se_v) sp_no)) sgo_name st_yes (se_tup (sa_v (sa_v (sa_e se_str sa_nil))) (Nat.le_of_ble_eq_true rfl))) sa_nil))))))
    (ss_ret se_mov))) rfl h
theorem c_leastO (T : Txt K mg C) : Cal P w K mg base CX0 7 "least" ["shelf", "goal"] (SpOf K 2 (d_leastO C)) := by
  obtain ⟨f, fd, hm, F⟩ := T.d_least
  obtain ⟨f0, fd0, G0, m0, k0, b0⟩ := (c_task_of (P := P) (w := w) (base := base) T).ex
  obtain ⟨f1, fd1, G1, m1, b1⟩ := (c_Task_may (P := P) (w := w) (base := base) T).ex
  obtain ⟨f2, fd2, G2, m2, b2⟩ := (c_Task_cost (P := P) (w := w) (base := base) T).ex
  obtain ⟨f3, fd3, G3, m3, b3⟩ := (c_Task_wayO (P := P) (w := w) (base := base) T).ex
  refine ⟨f, fd, F.ok (CX := CX0) sc_least (fun vs H Q E h => h.1) (fun cdv A outer s H vs Q E hr h => ?_), hm, F.kp, F.bindsN fun _ _ _ _ _ _ us hl => match us, hl with | [_, _], _ => rfl⟩
  refine ⟨_, PSs.nox (pss_cons (ps_set (i := 2) sc_least.nd rfl (Or.inl rfl) (pe_call G0 (hr.mono (by decide)) rfl m0 k0 b0 .nil pass0 (pa_cons (pv 0) (pa_cons (pv 1) pa_nil))))
    (pss_one (ps_ret (pe_ifExp (pt_val (pe_meth0 (pv 2) T.cl_Task m1 G1 (hr.mono (by decide)) b1 .nil pass0)) (pe_tupN (pa_cons (pe_meth0 (pv 2) T.cl_Task m2 G2 (hr.mono (by decide)) b2 .nil pass0) (pa_cons (pe_meth0 (pv 2) T.cl_Task m3 G3 (hr.mono (by decide)) b3 .nil pass0) pa_nil))) pe_non)))), ?_⟩
  exact sim_def0 (body := b_leastO C) (ss_seq (ss_set (se_call (sa_v (sa_v sa_nil))))
    (ss_ret (se_if (st_val (se_meth sa_nil)) (se_pr (sa_e (se_meth sa_nil) (sa_e (se_meth sa_nil) sa_nil))) se_non))) rfl h
theorem ok_law (T : Txt K mg C) {f : Addr} {fd : FuncData} (F : FunD K "law" "law" (defArgs s_law) (defBody s_law) (defScope s_law) [] [] f fd) : FnOk P w K mg base CX0 9 f fd ["_law_script"] (SpOf K 1 (d_law C)) := by
  obtain ⟨f0, fd0, G0, m0, k0, b0⟩ := (c_w_start (P := P) (w := w) (base := base) T).ex
  obtain ⟨f1, fd1, G1, m1, k1, b1⟩ := (c_w_shelf (P := P) (w := w) (base := base) T).ex
  obtain ⟨f2, fd2, G2, m2, k2, b2⟩ := (c_w_goal (P := P) (w := w) (base := base) T).ex
  obtain ⟨f3, fd3, G3, m3, k3, b3⟩ := (c_least (P := P) (w := w) (base := base) T).ex
  obtain ⟨f4, fd4, G4, m4, k4, b4⟩ := (c_fewest (P := P) (w := w) (base := base) T).ex
  obtain ⟨f5, fd5, G5, m5, k5, b5⟩ := (c_barred (P := P) (w := w) (base := base) T).ex
  obtain ⟨f6, fd6, G6, m6, k6, b6⟩ := (c_ways (P := P) (w := w) (base := base) T).ex
  obtain ⟨f7, fd7, G7, m7, k7, b7⟩ := (c_done (P := P) (w := w) (base := base) T).ex
  obtain ⟨f8, fd8, G8, m8, k8, b8⟩ := (c_judged (P := P) (w := w) (base := base) T).ex
  obtain ⟨f9, fd9, G9, m9, k9, b9⟩ := (c_leastO (P := P) (w := w) (base := base) T).ex
  obtain ⟨f10, fd10, G10, m10, k10, b10⟩ := (c_w_judged_so (P := P) (w := w) (base := base) T).ex
  refine F.ok (CX := CX0) sc_law (fun vs H Q E h => h.1) (fun cdv A outer s H vs Q E hr h => ?_)
  refine ⟨_, PSs.nox (pss_cons (ps_set (i := 1) sc_law.nd rfl (Or.inl rfl) (pe_call G0 (hr.mono (by decide)) rfl m0 k0 b0 .nil pass0 (pa_cons (pv 0) pa_nil)))
    (pss_cons (ps_for PassesOwn.never rfl (pi_range1 (by rfl) T.n_range (pa_cons pe_int pa_nil)) (pg_name (i := 2) sc_law.nd rfl (.inl rfl)) (pss_cons (ps_set (i := 3) sc_law.nd rfl (Or.inl rfl) (pe_call G1 (hr.mono (by decide)) rfl m1 k1 b1 .nil pass0 (pa_cons (pv 1) (pa_cons pe_int (pa_cons pe_int pa_nil)))))
    (pss_cons (ps_set (i := 4) sc_law.nd rfl (Or.inl rfl) (pe_call G2 (hr.mono (by decide)) rfl m2 k2 b2 .nil pass0 (pa_cons (pv 1) (pa_cons (pv 3) pa_nil))))
    (pss_cons (ps_par3 (i := 5) (j := 6) (l := 7) (by rfl) sc_law.nd rfl rfl rfl (by decide) (by decide) (by decide) rfl rfl rfl (pa_cons (pe_call G3 (hr.mono (by decide)) rfl m3 k3 b3 .nil pass0 (pa_cons (pv 3) (pa_cons (pv 4) pa_nil))) (pa_cons (pe_call G4 (hr.mono (by decide)) rfl m4 k4 b4 .nil pass0 (pa_cons (pv 3) (pa_cons (pv 4) pa_nil))) (pa_cons (pe_call G5 (hr.mono (by decide)) rfl m5 k5 b5 .nil pass0 (pa_cons (pv 3) (pa_cons (pv 4) pa_nil))) pa_nil))) (by rfl))
    (pss_cons (ps_if (pt_cmpR (op_neK (K := K) hr.units) (pe_lst (pa_cons (pe_cmpR op_isN (pv 5) pe_non (nomark _)) (pa_cons (pe_cmpR op_isN (pv 6) pe_non (nomark _)) (pa_cons (pe_cmpR (op_eqK (K := K) hr.units) (pe_call G6 (hr.mono (by decide)) rfl m6 k6 b6 .nil pass0 (pa_cons (pv 3) (pa_cons (pv 4) pa_nil))) pe_int (nomark _)) pa_nil)))) (pe_op (op_mulV (K := K)) (pe_lst (pa_cons (pe_cmpR op_notN (pv 7) pe_non (nomark _)) pa_nil)) pe_int) (nomark _)) (pss_one (ps_ret pe_bl)) pss_nil)
    (pss_cons (ps_if (pt_cmpR op_notN (pv 5) pe_non (nomark _)) (pss_cons (ps_asg (pv 5) (pg_tupK (K := K) (n := 2) rfl (pgs_cons (pg_name (i := 8) sc_law.nd rfl (.inl rfl)) (pgs_cons (pg_name (i := 9) sc_law.nd rfl (.inl rfl)) pgs_nil))))
    (pss_cons (ps_if (PW.pt (pw_or (pt_not (pt_val (pe_callB (call_isiK (K := K)) (by rfl) T.n_isinstance (by decide +kernel) (pa_cons (pv 9) (pa_cons (pe_bltn (v := .ty "list") (by rfl) T.n_list (by decide +kernel) rfl) pa_nil))))) (pw_or (pt_cmpR (op_neK (K := K) hr.units) (pe_call G7 (hr.mono (by decide)) rfl m7 k7 b7 .nil pass0 (pa_cons (pv 3) (pa_cons (pv 9) pa_nil))) (pe_tupN (pa_cons (pv 4) (pa_cons (pv 8) pa_nil))) (nomark _)) (pw_or1 (pt_cmpR op_gt (pv 6) (pe_callB (call_lenK (K := K)) (by rfl) T.n_len PySem.boot_len (pa_cons (pv 9) pa_nil)) (nomark _)))))) (pss_one (ps_ret pe_bl)) pss_nil)
    (pss_cons (ps_set (i := 10) sc_law.nd rfl (Or.inr rfl) (pe_lc (own := [("_law_deed", 12)]) (by rfl) sc_law.nd (pi_seqK (K := K) (pv 9)) (blkOk_by (by rfl)) (fun _ _ _ _ _ => (pg_name (i := 12) sc_law.nd rfl (.inl rfl))) (fun _ _ _ _ _ => pts_nil) (fun _ _ _ _ _ => (pe_ix (ix_K (K := K)) (pv 12) pe_int (fun _ _ => rfl)))))
    (pss_cons (ps_if (PW.pt (pw_or (pt_cmpR (op_neK (K := K) hr.units) (pe_lc (own := [("_law_book", 13)]) (by rfl) sc_law.nd (pi_seqK (K := K) (pv 10)) (blkOk_by (by rfl)) (fun _ _ _ _ _ => (pg_name (i := 13) sc_law.nd rfl (.inl rfl))) (fun _ _ _ _ _ => (pts_one (pt_cmpR op_gt (pe_bmK (K := K) PySem.F.plainAttrs_list PySem.F.slot_list_count PySem.F.type_list_count (mt_countK (K := K)) (pv 10) (pa_cons (pv 13) pa_nil)) pe_int (nomark _)))) (fun _ _ _ _ _ => (pv 13))) (pe_lst pa_nil) (nomark _)) (pw_or1 (pt_cmpR (op_neK (K := K) hr.units) (pe_call G8 (hr.mono (by decide)) rfl m8 k8 b8 .nil pass0 (pa_cons (pv 3) (pa_cons (pv 4) (pa_cons (pv 9) pa_nil)))) (pe_tupN (pa_cons pe_bl (pa_cons pe_int pa_nil))) (nomark _))))) (pss_one (ps_ret pe_bl)) pss_nil)
    (pss_cons (ps_if (PW.pt (pw_and (pt_cmpR (op_eqK (K := K) hr.units) (pv 4) (pe_ix (ix_K (K := K)) (pv 3) pe_int (fun _ _ => rfl)) (nomark _)) (pw_and1 (pt_cmpR (op_neK (K := K) hr.units) (pe_tupN (pa_cons (pv 8) (pa_cons (pv 9) (pa_cons (pe_call G6 (hr.mono (by decide)) rfl m6 k6 b6 .nil pass0 (pa_cons (pv 3) (pa_cons (pv 4) pa_nil))) pa_nil)))) (pe_tupN (pa_cons pe_int (pa_cons (pe_lst pa_nil) (pa_cons pe_int pa_nil)))) (nomark _))))) (pss_one (ps_ret pe_bl)) pss_nil)
    (pss_cons (ps_set (i := 11) sc_law.nd rfl (Or.inl rfl) (pe_call G9 (hr.mono (by decide)) rfl m9 k9 b9 .nil pass0 (pa_cons (pv 3) (pa_cons (pv 4) pa_nil))))
    (pss_cons (ps_expr (pe_bmK (K := K) PySem.F.plainAttrs_list PySem.F.slot_list_append PySem.F.type_list_append mt_append (pe_ix (ix_K (K := K)) (pv 11) pe_int (fun _ _ => rfl)) (pa_cons (pe_tupN (pa_cons pe_int (pa_cons pe_int (pa_cons pe_str pa_nil)))) pa_nil)))
    (pss_one (ps_if (pt_cmpR (op_neK (K := K) hr.units) (pe_call G3 (hr.mono (by decide)) rfl m3 k3 b3 .nil pass0 (pa_cons (pv 3) (pa_cons (pv 4) pa_nil))) (pv 5) (nomark _)) (pss_one (ps_ret pe_bl)) pss_nil))))))))) pss_nil)
    (pss_one (ps_if (pt_not (pt_val (pe_call G10 (hr.mono (by decide)) rfl m10 k10 b10 .nil pass0 (pa_cons (pv 1) (pa_cons (pv 3) (pa_cons (pv 4) pa_nil)))))) (pss_one (ps_ret pe_bl)) pss_nil))))))))
    (pss_one (ps_ret pe_bl)))), ?_⟩
  exact sim_def0 (body := b_law C) (ss_seq (ss_set (se_call (sa_v sa_nil)))
    (ss_seq (ss_for (si_rng1 (sa_e se_int sa_nil)) sg_name (ss_seq (ss_set (se_call (sa_v (sa_e se_int (sa_e se_int sa_nil)))))
    (ss_seq (ss_set (se_call (sa_v (sa_v sa_nil))))
    (ss_seq (ss_par3 (se_call (sa_v (sa_v sa_nil))) (se_call (sa_v (sa_v sa_nil))) (se_call (sa_v (sa_v sa_nil))))
    (ss_seq (ss_if (st_test (se_op p_ne (sa_e (se_lst (sa_e (se_op p_isN (sa_v (sa_e se_non sa_nil))) (sa_e (se_op p_isN (sa_v (sa_e se_non sa_nil))) (sa_e (se_op p_eq (sa_e (se_call (sa_v (sa_v sa_nil))) (sa_e se_int sa_nil))) sa_nil))) (Nat.le_of_ble_eq_true rfl)) (sa_e (se_op p_mulV (sa_e (se_lst (sa_e (se_op p_notN (sa_v (sa_e se_non sa_nil))) sa_nil) (Nat.le_of_ble_eq_true rfl)) (sa_e se_int sa_nil))) sa_nil)))) (ss_ret se_bl) ss_nx)
    (ss_seq (ss_if (st_test (se_op p_notN (sa_v (sa_e se_non sa_nil)))) (ss_seq (ss_asgG se_v (sg_tup (sgs_cons (sgs_cons sgs_nil))))
    (ss_seq (ss_if (st_or (st_not (st_val (se_cb p_isi (sa_v (sa_e se_raw sa_nil))))) (st_or (st_test (se_op p_ne (sa_e (se_call (sa_v (sa_v sa_nil))) (sa_e (se_tup (sa_v (sa_v sa_nil)) (Nat.le_of_ble_eq_true rfl)) sa_nil)))) (st_test (se_op p_IB (sa_v (sa_e (se_cb p_len (sa_v sa_nil)) sa_nil)))))) (ss_ret se_bl) ss_nx)
    (ss_seq (ss_set (se_fz (se_lc (own := [12]) (si_seqU se_v) sgo_name st_yes (se_op p_ix (sa_v (sa_e se_int sa_nil))))))
    (ss_seq (ss_if (st_or (st_test (se_op p_ne (sa_e (se_lc (own := [13]) (si_seqU se_v) sgo_name (st_test (se_op p_IB (sa_e (se_mrv p_count (sa_v sa_nil)) (sa_e se_int sa_nil)))) se_v) (sa_e (se_lst sa_nil (Nat.le_of_ble_eq_true rfl)) sa_nil)))) (st_test (se_op p_ne (sa_e (se_call (sa_v (sa_v (sa_v sa_nil)))) (sa_e (se_tup (sa_e se_bl (sa_e se_int sa_nil)) (Nat.le_of_ble_eq_true rfl)) sa_nil))))) (ss_ret se_bl) ss_nx)
    (ss_seq (ss_if (st_and (st_test (se_op p_eq (sa_v (sa_e (se_op p_ix (sa_v (sa_e se_int sa_nil))) sa_nil)))) (st_test (se_op p_ne (sa_e (se_tup (sa_v (sa_v (sa_e (se_call (sa_v (sa_v sa_nil))) sa_nil))) (Nat.le_of_ble_eq_true rfl)) (sa_e (se_tup (sa_e se_int (sa_e (se_fz (se_lst sa_nil (Nat.le_of_ble_eq_true rfl))) (sa_e se_int sa_nil))) (Nat.le_of_ble_eq_true rfl)) sa_nil))))) (ss_ret se_bl) ss_nx)
    (ss_seq (ss_set (se_call (sa_v (sa_v sa_nil))))
    (ss_seq (ss_expr (se_prApp (se_tup (sa_e se_int (sa_e se_int (sa_e se_str sa_nil))) (Nat.le_of_ble_eq_true rfl)) ext_tup3 (fun _ => rfl)))
    (ss_if (st_test (se_op p_ne (sa_e (se_call (sa_v (sa_v sa_nil))) (sa_v sa_nil)))) (ss_ret se_bl) ss_nx)))))))) ss_nx)
    (ss_if (st_not (st_val (se_call (sa_v (sa_v (sa_v sa_nil)))))) (ss_ret se_bl) ss_nx)))))))
    (ss_ret se_bl))) rfl h
def dd_is_number : He.DefD := ⟨("is_number", none), "is_number", "is_number", defArgs s_is_number, defBody s_is_number, defScope s_is_number, [], []⟩
def dd_is_price : He.DefD := ⟨("is_price", none), "is_price", "is_price", defArgs s_is_price, defBody s_is_price, defScope s_is_price, [], []⟩
def dd_Taker_init : He.DefD := ⟨("Taker", some "__init__"), "__init__", "Taker.__init__", defArgs s_Taker_init, defBody s_Taker_init, defScope s_Taker_init, [], []⟩
def dd_Taker_takes : He.DefD := ⟨("Taker", some "takes"), "takes", "Taker.takes", defArgs s_Taker_takes, defBody s_Taker_takes, defScope s_Taker_takes, [], []⟩
def dd_Taker_lacking : He.DefD := ⟨("Taker", some "lacking"), "lacking", "Taker.lacking", defArgs s_Taker_lacking, defBody s_Taker_lacking, defScope s_Taker_lacking, [], []⟩
def dd_first_bad_price : He.DefD := ⟨("first_bad_price", none), "first_bad_price", "first_bad_price", defArgs s_first_bad_price, defBody s_first_bad_price, defScope s_first_bad_price, [], []⟩
def dd_first_bad_lot : He.DefD := ⟨("first_bad_lot", none), "first_bad_lot", "first_bad_lot", defArgs s_first_bad_lot, defBody s_first_bad_lot, defScope s_first_bad_lot, [], []⟩
def dd_need_shelf : He.DefD := ⟨("need_shelf", none), "need_shelf", "need_shelf", defArgs s_need_shelf, defBody s_need_shelf, defScope s_need_shelf, [], []⟩
def dd_need_goal : He.DefD := ⟨("need_goal", none), "need_goal", "need_goal", defArgs s_need_goal, defBody s_need_goal, defScope s_need_goal, [], []⟩
def dd_lot_of : He.DefD := ⟨("lot_of", none), "lot_of", "lot_of", defArgs s_lot_of, defBody s_lot_of, defScope s_lot_of, [], []⟩
def dd_fixed_in : He.DefD := ⟨("fixed_in", none), "fixed_in", "fixed_in", defArgs s_fixed_in, defBody s_fixed_in, defScope s_fixed_in, [], []⟩
def dd_price_in : He.DefD := ⟨("price_in", none), "price_in", "price_in", defArgs s_price_in, defBody s_price_in, defScope s_price_in, [], []⟩
def dd_fault_of : He.DefD := ⟨("fault_of", none), "fault_of", "fault_of", defArgs s_fault_of, defBody s_fault_of, defScope s_fault_of, [], []⟩
def dd_placed : He.DefD := ⟨("placed", none), "placed", "placed", defArgs s_placed, defBody s_placed, defScope s_placed, [], []⟩
def dd_need_list : He.DefD := ⟨("need_list", none), "need_list", "need_list", defArgs s_need_list, defBody s_need_list, defScope s_need_list, [], []⟩
def dd_behind : He.DefD := ⟨("behind", none), "behind", "behind", defArgs s_behind, defBody s_behind, defScope s_behind, [], []⟩
def dd_done : He.DefD := ⟨("done", none), "done", "done", defArgs s_done, defBody s_done, defScope s_done, [], []⟩
def dd_standing : He.DefD := ⟨("standing", none), "standing", "standing", defArgs s_standing, defBody s_standing, defScope s_standing, [], []⟩
def dd_holding : He.DefD := ⟨("holding", none), "holding", "holding", defArgs s_holding, defBody s_holding, defScope s_holding, [], []⟩
def dd_greatest : He.DefD := ⟨("greatest", none), "greatest", "greatest", defArgs s_greatest, defBody s_greatest, defScope s_greatest, [], []⟩
def dd_longest : He.DefD := ⟨("longest", none), "longest", "longest", defArgs s_longest, defBody s_longest, defScope s_longest, [], []⟩
def dd_bar_of : He.DefD := ⟨("bar_of", none), "bar_of", "bar_of", defArgs s_bar_of, defBody s_bar_of, defScope s_bar_of, [], []⟩
def dd_barred : He.DefD := ⟨("barred", none), "barred", "barred", defArgs s_barred, defBody s_barred, defScope s_barred, [], []⟩
def dd_Task_init : He.DefD := ⟨("Task", some "__init__"), "__init__", "Task.__init__", defArgs s_Task_init, defBody s_Task_init, defScope s_Task_init, [], []⟩
def dd_Task_may : He.DefD := ⟨("Task", some "may"), "may", "Task.may", defArgs s_Task_may, defBody s_Task_may, defScope s_Task_may, [], []⟩
def dd_Task_chosen : He.DefD := ⟨("Task", some "chosen"), "chosen", "Task.chosen", defArgs s_Task_chosen, defBody s_Task_chosen, defScope s_Task_chosen, [], []⟩
def dd_Task_cost : He.DefD := ⟨("Task", some "cost"), "cost", "Task.cost", defArgs s_Task_cost, defBody s_Task_cost, defScope s_Task_cost, [], []⟩
def dd_Task_way : He.DefD := ⟨("Task", some "way"), "way", "Task.way", defArgs s_Task_way, defBody s_Task_way, defScope s_Task_way, [], []⟩
def dd_Task_sides : He.DefD := ⟨("Task", some "sides"), "sides", "Task.sides", defArgs s_Task_sides, defBody s_Task_sides, defScope s_Task_sides, [], []⟩
def dd_blended : He.DefD := ⟨("blended", none), "blended", "blended", defArgs s_blended, defBody s_blended, defScope s_blended, [], []⟩
def dd_Task_ways : He.DefD := ⟨("Task", some "ways"), "ways", "Task.ways", defArgs s_Task_ways, defBody s_Task_ways, defScope s_Task_ways, [], []⟩
def dd_task_of : He.DefD := ⟨("task_of", none), "task_of", "task_of", defArgs s_task_of, defBody s_task_of, defScope s_task_of, [], []⟩
def dd_least : He.DefD := ⟨("least", none), "least", "least", defArgs s_least, defBody s_least, defScope s_least, [], []⟩
def dd_fewest : He.DefD := ⟨("fewest", none), "fewest", "fewest", defArgs s_fewest, defBody s_fewest, defScope s_fewest, [], []⟩
def dd_ways : He.DefD := ⟨("ways", none), "ways", "ways", defArgs s_ways, defBody s_ways, defScope s_ways, [], []⟩
def dd_judged : He.DefD := ⟨("judged", none), "judged", "judged", defArgs s_judged, defBody s_judged, defScope s_judged, [], []⟩
def dd_w_start : He.DefD := ⟨("_law_start", none), "_law_start", "_law_start", defArgs s_w_start, defBody s_w_start, defScope s_w_start, [], []⟩
def dd_w_drawn : He.DefD := ⟨("_law_drawn", none), "_law_drawn", "_law_drawn", defArgs s_w_drawn, defBody s_w_drawn, defScope s_w_drawn, [], []⟩
def dd_w_turned : He.DefD := ⟨("_law_turned", none), "_law_turned", "_law_turned", defArgs s_w_turned, defBody s_w_turned, defScope s_w_turned, [], []⟩
def dd_w_lots : He.DefD := ⟨("_law_lots", none), "_law_lots", "_law_lots", defArgs s_w_lots, defBody s_w_lots, defScope s_w_lots, [], []⟩
def dd_w_shelf : He.DefD := ⟨("_law_shelf", none), "_law_shelf", "_law_shelf", defArgs s_w_shelf, defBody s_w_shelf, defScope s_w_shelf, [], []⟩
def dd_w_placed : He.DefD := ⟨("_law_placed", none), "_law_placed", "_law_placed", defArgs s_w_placed, defBody s_w_placed, defScope s_w_placed, [], []⟩
def dd_w_goal : He.DefD := ⟨("_law_goal", none), "_law_goal", "_law_goal", defArgs s_w_goal, defBody s_w_goal, defScope s_w_goal, [], []⟩
def dd_w_judged_so : He.DefD := ⟨("_law_judged_so", none), "_law_judged_so", "_law_judged_so", defArgs s_w_judged_so, defBody s_w_judged_so, defScope s_w_judged_so, [], []⟩
def dd_law : He.DefD := ⟨("law", none), "law", "law", defArgs s_law, defBody s_law, defScope s_law, [], []⟩
def fnl : List He.DefD := [dd_is_number, dd_is_price, dd_Taker_init, dd_Taker_takes, dd_Taker_lacking, dd_first_bad_price, dd_first_bad_lot, dd_need_shelf, dd_need_goal, dd_lot_of, dd_fixed_in, dd_price_in, dd_fault_of, dd_placed, dd_need_list, dd_behind, dd_done, dd_standing, dd_holding, dd_greatest, dd_longest, dd_bar_of, dd_barred, dd_Task_init, dd_Task_may, dd_Task_chosen, dd_Task_cost, dd_Task_way, dd_Task_sides, dd_blended, dd_Task_ways, dd_task_of, dd_least, dd_fewest, dd_ways, dd_judged, dd_w_start, dd_w_drawn, dd_w_turned, dd_w_lots, dd_w_shelf, dd_w_placed, dd_w_goal, dd_w_judged_so, dd_law]
def fal : List He.Fa := [.free "all", .free "bool", .free "enumerate", .free "int", .free "isinstance", .free "len", .free "list", .free "max", .free "range", .free "str", .free "sum", .free "tuple", .str "FIRST" "first", .str "FIXED" "fixed", .str "FORM" "form", .str "LAST" "last", .str "LOT" "lot", .int "MOST_BOOKS" 12, .int "MOST_LOTS" 5, .int "MOST_PRICE" 99, .str "TURN" "turn", .cls "Taker", .cls "Task", .noat "Taker" "many", .noat "Taker" "met", .noat "Task" "runs", .noat "Task" "wanted", .noat "Task" "wood", .glo "is_number", .glo "is_price", .mkr "Taker", .glo "Taker", .meth "Taker" "takes", .meth "Taker" "lacking", .glo "first_bad_price", .glo "first_bad_lot", .glo "need_shelf", .glo "need_goal", .glo "lot_of", .glo "fixed_in", .glo "price_in", .glo "fault_of", .glo "placed", .glo "need_list", .glo "behind", .glo "done", .glo "standing", .glo "holding", .glo "greatest", .glo "longest", .glo "bar_of", .glo "barred", .mkr "Task", .glo "Task", .meth "Task" "may", .meth "Task" "chosen", .meth "Task" "cost", .meth "Task" "way", .meth "Task" "sides", .glo "blended", .meth "Task" "ways", .glo "task_of", .glo "least", .glo "fewest", .glo "ways", .glo "judged", .glo "_law_start", .glo "_law_drawn", .glo "_law_turned", .glo "_law_lots", .glo "_law_shelf", .glo "_law_placed", .glo "_law_goal", .glo "_law_judged_so", .glo "law"]
abbrev R : PySem.W.OpenRow := PySem.W.OpenLaw.row PySem.Challenge.rw_pinshelf_k05_whole_ways_of_the_least_cos
abbrev hk : PySem.W.Hook := He.hookD 4 fal fnl
def ob (s : PySem.W.SharedT) : He.AlD := He.obsDG 4 fal fnl (HandSHeadRun.getT s)
theorem ob_eq (s : PySem.W.SharedT) : ob s = hk.obs s.abs := He.obsDG_eq (HandSHeadRun.getT_eq s)
def loose : List PySem.Str := (["ShelfError", "BadShelf", "BadGoal", "BadWay", "MOST_BOOKS", "MOST_LOTS", "MOST_PRICE", "is_number", "is_price", "Taker", "first_bad_price", "first_bad_lot", "need_shelf", "need_goal", "lot_of", "fixed_in", "price_in", "FIRST", "LAST", "FORM", "FIXED", "fault_of", "placed", "need_list", "behind", "done", "LOT", "TURN", "standing", "holding"] : List PySem.Str) ++ (["greatest", "longest", "bar_of", "barred", "Task", "blended", "task_of", "least", "fewest", "ways", "judged", "_law_start", "_law_drawn", "_law_turned", "_law_lots", "_law_shelf", "_law_placed", "_law_goal", "_law_judged_so"] : List PySem.Str)
theorem topRun (w : World) : HandSHeadRun.RunEq R (PySem.W.view R.prog [55]) hk ob 20000 loose w := by
  intro os
  kernel_rfl
theorem txt {K : PySem.W.Frag} {h : Heap} {mg : Str → Option Value} (X : K.In h) (G : h.Ns mainGlobals mg) (c : He.SaysD fal fnl K) : Txt K mg (He.ga K) where
  n_all := He.free_ok X G (c.fact 0 (f := .free "all") rfl)
  n_bool := He.free_ok X G (c.fact 1 (f := .free "bool") rfl)
  n_enumerate := He.free_ok X G (c.fact 2 (f := .free "enumerate") rfl)
  n_int := He.free_ok X G (c.fact 3 (f := .free "int") rfl)
  n_isinstance := He.free_ok X G (c.fact 4 (f := .free "isinstance") rfl)
  n_len := He.free_ok X G (c.fact 5 (f := .free "len") rfl)
  n_list := He.free_ok X G (c.fact 6 (f := .free "list") rfl)
  n_max := He.free_ok X G (c.fact 7 (f := .free "max") rfl)
  n_range := He.free_ok X G (c.fact 8 (f := .free "range") rfl)
  n_str := He.free_ok X G (c.fact 9 (f := .free "str") rfl)
  n_sum := He.free_ok X G (c.fact 10 (f := .free "sum") rfl)
  n_tuple := He.free_ok X G (c.fact 11 (f := .free "tuple") rfl)
  k_FIRST := He.str_ok X G (c.fact 12 (f := .str "FIRST" "first") rfl)
  k_FIXED := He.str_ok X G (c.fact 13 (f := .str "FIXED" "fixed") rfl)
  k_FORM := He.str_ok X G (c.fact 14 (f := .str "FORM" "form") rfl)
  k_LAST := He.str_ok X G (c.fact 15 (f := .str "LAST" "last") rfl)
  k_LOT := He.str_ok X G (c.fact 16 (f := .str "LOT" "lot") rfl)
  k_MOST_BOOKS := He.int_ok X G (c.fact 17 (f := .int "MOST_BOOKS" 12) rfl)
  k_MOST_LOTS := He.int_ok X G (c.fact 18 (f := .int "MOST_LOTS" 5) rfl)
  k_MOST_PRICE := He.int_ok X G (c.fact 19 (f := .int "MOST_PRICE" 99) rfl)
  k_TURN := He.str_ok X G (c.fact 20 (f := .str "TURN" "turn") rfl)
  cl_Taker := He.cls_ok (c.fact 21 (f := .cls "Taker") rfl)
  cl_Task := He.cls_ok (c.fact 22 (f := .cls "Task") rfl)
  at_Taker_many := He.noat_ok (c.fact 23 (f := .noat "Taker" "many") rfl)
  at_Taker_met := He.noat_ok (c.fact 24 (f := .noat "Taker" "met") rfl)
  at_Task_runs := He.noat_ok (c.fact 25 (f := .noat "Task" "runs") rfl)
  at_Task_wanted := He.noat_ok (c.fact 26 (f := .noat "Task" "wanted") rfl)
  at_Task_wood := He.noat_ok (c.fact 27 (f := .noat "Task" "wood") rfl)
  d_is_number := let ⟨fd, F⟩ := c.def_ 0 (d := dd_is_number) rfl; ⟨_, fd, He.glo_ok X G (c.fact 28 (f := .glo "is_number") rfl), F⟩
  d_is_price := let ⟨fd, F⟩ := c.def_ 1 (d := dd_is_price) rfl; ⟨_, fd, He.glo_ok X G (c.fact 29 (f := .glo "is_price") rfl), F⟩
  d_Taker_init := let ⟨fd, F⟩ := c.def_ 2 (d := dd_Taker_init) rfl; ⟨_, fd, He.mkr_ok (c.fact 30 (f := .mkr "Taker") rfl), He.glo_ok X G (c.fact 31 (f := .glo "Taker") rfl), F⟩
  d_Taker_takes := let ⟨fd, F⟩ := c.def_ 3 (d := dd_Taker_takes) rfl; ⟨_, fd, He.meth_ok (c.fact 32 (f := .meth "Taker" "takes") rfl), F⟩
  d_Taker_lacking := let ⟨fd, F⟩ := c.def_ 4 (d := dd_Taker_lacking) rfl; ⟨_, fd, He.meth_ok (c.fact 33 (f := .meth "Taker" "lacking") rfl), F⟩
  d_first_bad_price := let ⟨fd, F⟩ := c.def_ 5 (d := dd_first_bad_price) rfl; ⟨_, fd, He.glo_ok X G (c.fact 34 (f := .glo "first_bad_price") rfl), F⟩
  d_first_bad_lot := let ⟨fd, F⟩ := c.def_ 6 (d := dd_first_bad_lot) rfl; ⟨_, fd, He.glo_ok X G (c.fact 35 (f := .glo "first_bad_lot") rfl), F⟩
  d_need_shelf := let ⟨fd, F⟩ := c.def_ 7 (d := dd_need_shelf) rfl; ⟨_, fd, He.glo_ok X G (c.fact 36 (f := .glo "need_shelf") rfl), F⟩
  d_need_goal := let ⟨fd, F⟩ := c.def_ 8 (d := dd_need_goal) rfl; ⟨_, fd, He.glo_ok X G (c.fact 37 (f := .glo "need_goal") rfl), F⟩
  d_lot_of := let ⟨fd, F⟩ := c.def_ 9 (d := dd_lot_of) rfl; ⟨_, fd, He.glo_ok X G (c.fact 38 (f := .glo "lot_of") rfl), F⟩
  d_fixed_in := let ⟨fd, F⟩ := c.def_ 10 (d := dd_fixed_in) rfl; ⟨_, fd, He.glo_ok X G (c.fact 39 (f := .glo "fixed_in") rfl), F⟩
  d_price_in := let ⟨fd, F⟩ := c.def_ 11 (d := dd_price_in) rfl; ⟨_, fd, He.glo_ok X G (c.fact 40 (f := .glo "price_in") rfl), F⟩
  d_fault_of := let ⟨fd, F⟩ := c.def_ 12 (d := dd_fault_of) rfl; ⟨_, fd, He.glo_ok X G (c.fact 41 (f := .glo "fault_of") rfl), F⟩
  d_placed := let ⟨fd, F⟩ := c.def_ 13 (d := dd_placed) rfl; ⟨_, fd, He.glo_ok X G (c.fact 42 (f := .glo "placed") rfl), F⟩
  d_need_list := let ⟨fd, F⟩ := c.def_ 14 (d := dd_need_list) rfl; ⟨_, fd, He.glo_ok X G (c.fact 43 (f := .glo "need_list") rfl), F⟩
  d_behind := let ⟨fd, F⟩ := c.def_ 15 (d := dd_behind) rfl; ⟨_, fd, He.glo_ok X G (c.fact 44 (f := .glo "behind") rfl), F⟩
  d_done := let ⟨fd, F⟩ := c.def_ 16 (d := dd_done) rfl; ⟨_, fd, He.glo_ok X G (c.fact 45 (f := .glo "done") rfl), F⟩
  d_standing := let ⟨fd, F⟩ := c.def_ 17 (d := dd_standing) rfl; ⟨_, fd, He.glo_ok X G (c.fact 46 (f := .glo "standing") rfl), F⟩
  d_holding := let ⟨fd, F⟩ := c.def_ 18 (d := dd_holding) rfl; ⟨_, fd, He.glo_ok X G (c.fact 47 (f := .glo "holding") rfl), F⟩
  d_greatest := let ⟨fd, F⟩ := c.def_ 19 (d := dd_greatest) rfl; ⟨_, fd, He.glo_ok X G (c.fact 48 (f := .glo "greatest") rfl), F⟩
  d_longest := let ⟨fd, F⟩ := c.def_ 20 (d := dd_longest) rfl; ⟨_, fd, He.glo_ok X G (c.fact 49 (f := .glo "longest") rfl), F⟩
  d_bar_of := let ⟨fd, F⟩ := c.def_ 21 (d := dd_bar_of) rfl; ⟨_, fd, He.glo_ok X G (c.fact 50 (f := .glo "bar_of") rfl), F⟩
  d_barred := let ⟨fd, F⟩ := c.def_ 22 (d := dd_barred) rfl; ⟨_, fd, He.glo_ok X G (c.fact 51 (f := .glo "barred") rfl), F⟩
  d_Task_init := let ⟨fd, F⟩ := c.def_ 23 (d := dd_Task_init) rfl; ⟨_, fd, He.mkr_ok (c.fact 52 (f := .mkr "Task") rfl), He.glo_ok X G (c.fact 53 (f := .glo "Task") rfl), F⟩
  d_Task_may := let ⟨fd, F⟩ := c.def_ 24 (d := dd_Task_may) rfl; ⟨_, fd, He.meth_ok (c.fact 54 (f := .meth "Task" "may") rfl), F⟩
  d_Task_chosen := let ⟨fd, F⟩ := c.def_ 25 (d := dd_Task_chosen) rfl; ⟨_, fd, He.meth_ok (c.fact 55 (f := .meth "Task" "chosen") rfl), F⟩
  d_Task_cost := let ⟨fd, F⟩ := c.def_ 26 (d := dd_Task_cost) rfl; ⟨_, fd, He.meth_ok (c.fact 56 (f := .meth "Task" "cost") rfl), F⟩
  d_Task_way := let ⟨fd, F⟩ := c.def_ 27 (d := dd_Task_way) rfl; ⟨_, fd, He.meth_ok (c.fact 57 (f := .meth "Task" "way") rfl), F⟩
  d_Task_sides := let ⟨fd, F⟩ := c.def_ 28 (d := dd_Task_sides) rfl; ⟨_, fd, He.meth_ok (c.fact 58 (f := .meth "Task" "sides") rfl), F⟩
  d_blended := let ⟨fd, F⟩ := c.def_ 29 (d := dd_blended) rfl; ⟨_, fd, He.glo_ok X G (c.fact 59 (f := .glo "blended") rfl), F⟩
  d_Task_ways := let ⟨fd, F⟩ := c.def_ 30 (d := dd_Task_ways) rfl; ⟨_, fd, He.meth_ok (c.fact 60 (f := .meth "Task" "ways") rfl), F⟩
  d_task_of := let ⟨fd, F⟩ := c.def_ 31 (d := dd_task_of) rfl; ⟨_, fd, He.glo_ok X G (c.fact 61 (f := .glo "task_of") rfl), F⟩
  d_least := let ⟨fd, F⟩ := c.def_ 32 (d := dd_least) rfl; ⟨_, fd, He.glo_ok X G (c.fact 62 (f := .glo "least") rfl), F⟩
  d_fewest := let ⟨fd, F⟩ := c.def_ 33 (d := dd_fewest) rfl; ⟨_, fd, He.glo_ok X G (c.fact 63 (f := .glo "fewest") rfl), F⟩
  d_ways := let ⟨fd, F⟩ := c.def_ 34 (d := dd_ways) rfl; ⟨_, fd, He.glo_ok X G (c.fact 64 (f := .glo "ways") rfl), F⟩
  d_judged := let ⟨fd, F⟩ := c.def_ 35 (d := dd_judged) rfl; ⟨_, fd, He.glo_ok X G (c.fact 65 (f := .glo "judged") rfl), F⟩
  d_w_start := let ⟨fd, F⟩ := c.def_ 36 (d := dd_w_start) rfl; ⟨_, fd, He.glo_ok X G (c.fact 66 (f := .glo "_law_start") rfl), F⟩
  d_w_drawn := let ⟨fd, F⟩ := c.def_ 37 (d := dd_w_drawn) rfl; ⟨_, fd, He.glo_ok X G (c.fact 67 (f := .glo "_law_drawn") rfl), F⟩
  d_w_turned := let ⟨fd, F⟩ := c.def_ 38 (d := dd_w_turned) rfl; ⟨_, fd, He.glo_ok X G (c.fact 68 (f := .glo "_law_turned") rfl), F⟩
  d_w_lots := let ⟨fd, F⟩ := c.def_ 39 (d := dd_w_lots) rfl; ⟨_, fd, He.glo_ok X G (c.fact 69 (f := .glo "_law_lots") rfl), F⟩
  d_w_shelf := let ⟨fd, F⟩ := c.def_ 40 (d := dd_w_shelf) rfl; ⟨_, fd, He.glo_ok X G (c.fact 70 (f := .glo "_law_shelf") rfl), F⟩
  d_w_placed := let ⟨fd, F⟩ := c.def_ 41 (d := dd_w_placed) rfl; ⟨_, fd, He.glo_ok X G (c.fact 71 (f := .glo "_law_placed") rfl), F⟩
  d_w_goal := let ⟨fd, F⟩ := c.def_ 42 (d := dd_w_goal) rfl; ⟨_, fd, He.glo_ok X G (c.fact 72 (f := .glo "_law_goal") rfl), F⟩
  d_w_judged_so := let ⟨fd, F⟩ := c.def_ 43 (d := dd_w_judged_so) rfl; ⟨_, fd, He.glo_ok X G (c.fact 73 (f := .glo "_law_judged_so") rfl), F⟩
  d_law := let ⟨fd, F⟩ := c.def_ 44 (d := dd_law) rfl; ⟨_, fd, He.glo_ok X G (c.fact 74 (f := .glo "law") rfl), F⟩
end Wk
open PySem PySem.W PySem.Calls PyProof.Rows


theorem PySem.Challenge.cw_pinshelf_k05_whole_ways_of_the_least_cos_holds : PySem.Challenge.rw_pinshelf_k05_whole_ways_of_the_least_cos.Holds := by
  w_on; o_law
  refine HandSHeadRun.head_any (r := OpenLaw.row PySem.Challenge.rw_pinshelf_k05_whole_ways_of_the_least_cos) (q := view (OpenLaw.row PySem.Challenge.rw_pinshelf_k05_whole_ways_of_the_least_cos).prog [55]) (H := Wk.hk) (ob := Wk.ob) (M := 20000) (loose := Wk.loose) (d := HandSHeadRun.topDef (OpenLaw.row PySem.Challenge.rw_pinshelf_k05_whole_ways_of_the_least_cos).prog 55) (kwd := []) Wk.ob_eq
    (by kernel_rfl) (fun s => by kernel_rfl) Wk.topRun (by kernel_rfl) (by kernel_rfl) (by kernel_rfl) (by rfl) (by first | assumption | decide +kernel) (by decide +kernel) ⟨rfl, rfl, rfl, rfl, rfl, by decide +kernel⟩ ?hw ?hc
  case hw => w_witness2
  case hc =>
    refine L2.walk_ofE (l := PySem.Challenge.rw_pinshelf_k05_whole_ways_of_the_least_cos) (n := 63) (k := 9) (x := "_law_script") (CX := L2.CX0) rfl (by decide) (by kernel_rfl) ⟨rfl, by decide, by decide⟩ ?F (fun _ _ _ _ z => z)
    intro w mg fa h Y G hmg0
    obtain ⟨K, KX, c⟩ := Y
    have hmg : mg ("law" : PySem.Str) = some (.ref fa) := by
      have e : (HandSHeadRun.topDef (OpenLaw.row PySem.Challenge.rw_pinshelf_k05_whole_ways_of_the_least_cos).prog 55).name = ("law" : PySem.Str) := by kernel_rfl
      rw [← e]
      exact hmg0
    have T := Wk.txt KX G c
    obtain ⟨f0, fd, hm0, F0⟩ := T.d_law
    have e : f0 = fa := by
      have := hm0.symm.trans hmg
      cases this
      rfl
    subst e
    have hb : ∀ (s : Shared) (v : Value), BindsTo s fd ⟨[v], []⟩ [("_law_script", v)] := fun s v => L2.FunD.bindsA (ps := ["_law_script"]) F0 (fun _ _ _ _ _ _ us hl => match us, hl with | [_], _ => rfl) s [v] rfl
    refine ⟨K, fd, _, KX, hb, fun H a ns hl _ hS => ?_, fun base _ _ => Wk.ok_law (P := PySem.Challenge.rw_pinshelf_k05_whole_ways_of_the_least_cos.prog) (w := w) (base := base) T F0⟩
    refine ⟨rfl, H, [.val (.list (ns.map .int))], [], rfl, (Sm.Own.nil (fun _ _ h => h)).val (.lst hS (Sm.dpAll_intsV ns)), ?_⟩
    obtain ⟨e, he⟩ := Wk.law_math (He.ga K) ns hl
    rw [he]
    intro v Hb' H' hl' o
    obtain ⟨f, r⟩ := o.head
    exact Sm.dp_bl r.2

