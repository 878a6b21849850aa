import PyProof.Rows.All
import Wide.All
import OpenK.AllK
import Wide.FinOn
import HandS.ForMost
import HandS.IsInst
import HandS.TupAny
import HandS.TupMul
import HandS.Strs
import HandS.Deep
import HandS.Exc
import HandS.Lambda
import HandS.SortInts
import PyProof.CollectWalk
import PyProof.ListNew
import KE.KDictZip
import HandS.Zip0
import HandS.Zip
import HandS.Codes
import HandS.SetFor
import HandS.Style
import HandS.DictComp
import HandS.More
import HandS.WordsDict
import HandS.Iter
import HandS.ExcOwn
import KE.KExcPX
import KE.KExcSuper
import HandS.EndTab
import KE.GoesMore
import PyProof.Rows.StrMeet
import HandS.Star
import KE.KDictPairs
import HandS.Set
import HandS.NoneIn
import HandS.Text
import HandS.IntHex
import HandS.WideBits
import KE.RegKSuper
import HandS.WordsExc
import PySem.Challenge.RW_stillsums_k38_octets_of_integers_and_che
set_option Elab.async false
set_option linter.all false
set_option maxRecDepth 100000
set_option maxHeartbeats 2000000
/-! ZT: tuples of which it is kept that they have no dict of their own (then their methods may be called). -/
namespace ZT
open PySem PySem.Spec PyProof.Rows L2
/-- a tuple that has no dict -/
def PT (K : PySem.W.Frag) (H : Hp) (a : Addr) (xs : List V) : Prop :=
  (∃ ob : Obj, H a = some (.frz ob (.tup xs)) ∧ ob.dict = none) ∨
    ∃ (ob : Obj) (us : Array Value) (n : Nat), K.lookup a = some ob ∧ ob.cls = .type "tuple" ∧ ob.dict = none ∧ ob.data = .seq us n ∧ us.size ≤ sizeLine ∧ Vals xs us.toList
theorem PT.sq {K : PySem.W.Frag} {H : Hp} {a : Addr} {xs : List V} (h : PT K H a xs) : SqT K H a xs := by
  rcases h with ⟨ob, h, _⟩ | ⟨ob, us, n, h1, h2, _, h4, h5, h6⟩
  · exact .inl (.inr ⟨ob, h⟩)
  · exact .inr ⟨ob, us, n, h1, h2, h4, h5, h6⟩
theorem PT.new {K : PySem.W.Frag} {H : Hp} {p : Addr} {ob : Obj} {xs : List V} (h : ob.dict = none) : PT K (upd H p (.frz ob (.tup xs))) p xs := .inl ⟨ob, upd_same, h⟩
theorem PT.at {K : PySem.W.Frag} {H : Hp} {p : Addr} {ob : Obj} {xs : List V} (e : H p = some (.frz ob (.tup xs))) (h : ob.dict = none) : PT K H p xs := .inl ⟨ob, e, h⟩
abbrev newT (us : List Value) : Obj := { cls := .type "tuple", data := .seq us.toArray }
/-- what is asked where a tuple is made -/
abbrev Mk (Q : VK) (xs : List V) (H : Hp) : Prop := ∀ (p : Addr) (ob : Obj), H p = none → ob.dict = none → Q (.ref p) (upd H p (.frz ob (.tup xs)))
section
variable {X : Cx} {pins : List (Addr × Obj)} {σ : L2.St} {H : Hp} {s : Shared} {Q : VK}
theorem made {xs : List V} {us : List Value} {h' : Heap} {a : Addr} {t' : Nat} (I : Inv X pins σ H s) (k : ∀ b u, s.heap.get? b = some u → h'.get? b = some u) (hp : s.heap.objs.size ≤ a) (r : Vals xs us) (hz : xs.length ≤ sizeLine) (e : h'.get? a = some (newT us)) (q : Mk Q xs H) :
    EP X pins σ Q (.ref a) { s with heap := h', toks := t' } :=
  ⟨.ref a, _, I.laid (o := .frz (newT us) (.tup xs)) k hp (show ObjOk X.prog X.w _ _ _ (.frz (newT us) (.tup xs)) from ⟨e, hz, us, r, ⟨_, e, rfl, _, rfl⟩⟩), rfl, q a (newT us) (I.hok.fresh hp) rfl⟩
/-- (a, b, ..) -/
def tTupP (t : TA) : TE := fun σ H Q => t σ H fun xs H1 => xs.length ≤ sizeLine ∧ Mk Q xs H1
theorem pe_tupP {es : List Expr} {t : TA} {x1} {pos : Pos} (h : PA X es t) : PE X (.Tuple es x1 pos) (tTupP t) := by
  refine ⟨fun pins s σ H Q I hq => wpAny_Tuple_spliced (thn (h.run pos pins s σ H _ I hq) fun us s1 w => ?_)⟩
  obtain ⟨xs, H1, I1, r, z, q⟩ := w
  exact ⟨by rw [← r.length]; exact z, made (t' := s1.toks) I1 (fun b u e => Heap.get?_push_of_some _ e) (Nat.le_refl _) r z (Heap.get?_push_size _ rfl) q⟩
/-- tuple(xs) -/
def rTupleP (K : PySem.W.Frag) : List V → Hp → VK → Prop := fun xs H Q => ∃ p ys, xs = [.ref p] ∧ ((SqL K H p ys ∧ Mk Q ys H) ∨ (SqT K H p ys ∧ Q (.ref p) H))
theorem call_tupleP : CallR X (.type "tuple") (rTupleP X.K) := by
  intro pins s σ H vs us Q I r w
  obtain ⟨p, ys, rfl, w⟩ := w
  obtain ⟨_, rfl, e⟩ := vals1 r
  cases e
  rcases w with ⟨l, q⟩ | ⟨l, q⟩
  · obtain ⟨its, rv, pl, hz⟩ := I.list l
    have n := rv.length
    refine call_tuple_list pl.isList (fun h' kp => ?_) (by simp only [List.size_toArray]; omega)
    have I1 : Inv X pins σ H { s with heap := h' } := I.kept (t' := s.toks) kp
    exact made (s := { s with heap := h' }) (t' := s.toks) I1 (fun b o e => Heap.get?_push_of_some _ e) (Nat.le_refl _) rv hz (Heap.get?_push_size _ rfl) q
  · obtain ⟨_, _, pl, _⟩ := I.tuple l
    exact call_tuple_same pl ⟨.ref p, H, I, rfl, q⟩
/-- t[lo:hi] -/
def rSlP (K : PySem.W.Frag) : V → Option Int → Option Int → Hp → VK → Prop := fun x lo hi H Q => ∃ a xs, x = .ref a ∧ SqT K H a xs ∧
  (HT.sIx xs.length 0 lo = 0 ∧ HT.sIx xs.length xs.length hi = xs.length → Q (.ref a) H) ∧ (¬ (HT.sIx xs.length 0 lo = 0 ∧ HT.sIx xs.length xs.length hi = xs.length) → Mk Q (cutV xs lo hi) H)
theorem sl_tupP : SlR X (rSlP X.K) := by
  intro pins s σ H x v vl vu lo hi sl Q I rx hs pl pu w
  obtain ⟨a, xs, rfl, hx, q1, q2⟩ := w
  cases rx
  obtain ⟨its, rv, ht, hz⟩ := I.tuple hx
  have n : its.toArray.size = xs.length := by rw [List.size_toArray, rv.length]
  refine ⟨"tuple", _, PyProof.Rows.slot_tuple_getitem.lookup, ht.typeIs, ?_⟩
  by_cases c : HT.sIx xs.length 0 lo = 0 ∧ HT.sIx xs.length xs.length hi = xs.length
  · exact getItem_tuple_whole ht hs pl pu (by rw [n]; exact c) ⟨.ref a, H, I, rfl, q1 c⟩
  · refine HT.getItem_tuple_cut ht hs pl pu (by rw [n]; exact c) ?_ (by rw [n]; exact hz)
    rw [n]
    exact made (t' := s.toks) I (fun b ob q => Heap.get?_push_of_some _ q) (Nat.le_refl _) ((rv.drop _).take _) (Nat.le_trans (cutV_length xs lo hi) hz) (Heap.get?_push_size _ rfl) (q2 c)
/-- t + u -/
def rCatP (K : PySem.W.Frag) : R2 := fun x y H Q => ∃ a b xs ys, x = .ref a ∧ y = .ref b ∧ SqT K H a xs ∧ SqT K H b ys ∧ xs.length + ys.length ≤ sizeLine ∧
  (xs = [] → Q (.ref b) H) ∧ (xs ≠ [] → ys = [] → Q (.ref a) H) ∧ (xs ≠ [] → ys ≠ [] → Mk Q (xs ++ ys) H)
theorem op_catP : OpR X (binaryOp .Add) (rCatP X.K) := by
  intro pins s σ H x y v u Q I rx ry w
  obtain ⟨a, b, xs, ys, rfl, rfl, ha, hb, hz, q0, q1, q2⟩ := w
  cases rx
  cases ry
  obtain ⟨_, r1, p1, _⟩ := I.tuple ha
  obtain ⟨_, r2, p2, _⟩ := I.tuple hb
  by_cases e : xs = []
  · subst e
    cases r1
    exact cat_tup0 p1 p2 ⟨.ref b, H, I, rfl, q0 rfl⟩
  · refine HT.cat_tup p1 p2 (fun z => e (r1.nil_iff.mp z)) (fun z => ⟨.ref a, H, I, rfl, q1 e (r2.nil_iff.mp z)⟩) (fun z => ?_) (by rw [← r1.length, ← r2.length]; exact hz)
    have z' : ¬ ys = [] := fun m => z (r2.nil_iff.mpr m)
    exact made (t' := s.toks) I (fun b ob q => Heap.get?_push_of_some _ q) (Nat.le_refl _) (r1.append r2) (by rw [List.length_append]; exact hz) (Heap.get?_push_size _ rfl) (q2 e z')
/-- a method of a tuple -/
def tTM (K : PySem.W.Frag) (r : V → List V → Hp → VK → Prop) (to : TE) (t : TA) : TE := fun σ H Q => to σ H fun x H1 => (∃ a xs, x = .ref a ∧ PT K H1 a xs) ∧ t σ H1 fun ys H2 => r x ys H2 Q
theorem PT.plain {a : Addr} {xs : List V} (I : Inv X pins σ H s) (h : PT X.K H a xs) : s.TypeIs (.ref a) "tuple" ∧ ∀ b, Value.ref a = .ref b → ∃ ob, s.heap.get? b = some ob ∧ ob.dict = none := by
  rcases h with ⟨ob, h, hd⟩ | ⟨ob, us, n, h1, h2, hd, _⟩
  · obtain ⟨e, _, its, _, o2, e2, hc, _⟩ := I.hok a _ h
    exact ⟨⟨o2, e2, hc⟩, fun b z => by cases z; exact ⟨ob, e, hd⟩⟩
  · exact ⟨⟨ob, I.kIn a ob h1, h2⟩, fun b z => by cases z; exact ⟨ob, I.kIn _ ob h1, hd⟩⟩
theorem pe_tm {o e : Expr} {es : List Expr} {to : TE} {t : TA} {name : Str} {id : String} {apos cpos : Pos} {r : V → List V → Hp → VK → Prop} (slot : Slot "tuple" name id) (hty : typeOf (.builtin id) = pure (.type "method_descriptor")) (hm : MtR X id r) (ho : PE X o to) (ha : PA X (e :: es) t)
    (hb : attributeBase o name X.env (eval o X.env) = eval o X.env := by rfl)
    (hf : ((backTo cpos (starEach (e :: es) X.env)).all (fun x => !x.1) && (backToKw cpos (keywordEach [] X.env)).all (fun x => x.1.isSome) && decide ((e :: es).length + ([] : List Keyword).length + (if ([] : List Keyword).isEmpty then 0 else 1) < 30)) = true := by rfl)
    (hl : (apos.endLine == cpos.line) = true := by rfl) (hs : starEach (e :: es) X.env = (false, eval e X.env) :: starEach es X.env := by rfl) (hp : (backTo cpos (starEach es X.env)).any (·.1) = false := by rfl) :
    PE X (.Call (.Attribute o name apos) (e :: es) [] cpos) (tTM X.K r to t) := by
  refine ⟨fun pins s σ H Q I h => wpAny_Call_method_late hb hf hl rfl (thn (ho.run pins s σ H _ I h) fun v s1 w => ?_)⟩
  obtain ⟨x, H1, I1, r1, ⟨a, xs, rfl, hT⟩, q1⟩ := w
  cases r1
  obtain ⟨k1, k2⟩ := hT.plain I1
  refine ⟨"tuple", id, PySem.F.plainAttrs_tuple, slot, hty, k1, k2, ?_⟩
  have A1 := ha.run cpos pins s1 σ H1 _ I1 q1
  rw [hs] at A1 ⊢
  refine Calls.callWith_builtin (by show (false || (backTo cpos (starEach es X.env)).any (·.1)) = false; rw [hp]; rfl) (Calls.evalArgs_plain ?_)
  exact thn A1 fun us s2 w => by
    obtain ⟨vs, H2, I2, r2, q2⟩ := w
    exact hm pins s2 σ H2 (.ref a) vs (.ref a) us Q I2 rfl r2 q2
/-- t * k, k above 1 -/
def rRepP (K : PySem.W.Frag) : R2 := fun x y H Q => ∃ l k xs, x = .ref l ∧ y = .int k ∧ SqT K H l xs ∧ xs ≠ [] ∧ 2 ≤ k ∧ k ≤ 1000 ∧ xs.length ≤ 1000 ∧ Mk Q (List.replicate k.toNat xs).flatten H
theorem op_repP : OpR X (binaryOp .Mult) (rRepP X.K) := by
  intro pins s σ H x y v u Q I rx ry w
  obtain ⟨l, k, xs, rfl, rfl, hT, hne, h1, h2, hz, q⟩ := w
  cases rx
  obtain ⟨tk, rfl⟩ := ry
  obtain ⟨its, rv, ⟨⟨c0, d0, dt, sl⟩, ho, hc, n0, hd⟩, _⟩ := I.tuple hT
  simp only at hc hd
  subst hc hd
  have e1 : its.toArray.size = xs.length := by rw [List.size_toArray, rv.length]
  have e2 : its.toArray.isEmpty = false := by
    cases its with
    | nil => exact absurd (by cases rv; rfl) hne
    | cons a b => rfl
  have b1 : ((xs.length : Nat) : Int) * k ≤ 1000 * k := Int.mul_le_mul_of_nonneg_right (by omega) (by omega)
  have b2 : k.toNat * xs.length ≤ 1000 * 1000 := Nat.mul_le_mul (by omega) hz
  have ln : (List.replicate k.toNat its).flatten.length = k.toNat * xs.length := by rw [PyProof.Rows.lm_len_rep_flat, ← rv.length]
  have g1 : (decide (k < -(2 ^ 63)) || decide (k ≥ 2 ^ 63)) = false := by
    rw [Bool.or_eq_false_iff]
    exact ⟨decide_eq_false (by omega), decide_eq_false (by omega)⟩
  have g2 : (its.toArray.isEmpty || k == 1) = false := by
    rw [e2]
    exact beq_eq_false_iff_ne.mpr (by omega)
  have g3 : (decide (k ≤ 0) || its.toArray.isEmpty) = false := by
    rw [e2, decide_eq_false (by omega : ¬ k ≤ 0)]
    rfl
  have g4 : Builtin.Tuple.tupleTooMany (((its.toArray.size : Nat) : Int) * k) = false := by
    rw [e1]
    unfold Builtin.Tuple.tupleTooMany
    exact decide_eq_false (by rw [sizeLine_eq]; omega)
  have m1 := int_rmul_tuple k tk l its.toArray n0 d0 sl
  have m2 := tuple_mulW l its.toArray n0 d0 sl k tk g1 g2 g3 (by rw [e1]; omega) g4 (by rw [size_rep, List.size_toArray, ln, sizeLine_eq]; omega)
  refine wpAny_binaryOp_repeat_ref (T := "tuple") (U := "int") (by decide) ⟨_, ho, rfl⟩ (fun z => typeIs_int z k tk) noFill_tuple_mul F.fills_int_mul F.slot_int_rmul repeat_tuple F.slot_int_index.lookup ?_
  refine call_meets F.slot_int_rmul (typeIs_int s k tk) F.entry_int_rmul (F.args_int_rmul_2 _ _) m1 ⟨ho, rfl, ⟨_, ho, rfl⟩, ?_⟩
  refine call_meets F.slot_tuple_mul ⟨_, ho, rfl⟩ F.entry_tuple_mul (F.args_tuple_mul_2 _ _) m2 ⟨ho, ?_⟩
  rw [size_rep]
  exact made (t' := s.toks) I (fun b ob q => Heap.get?_push_of_some _ q) (Nat.le_refl _) (rv.rep k.toNat) (by rw [PyProof.Rows.lm_len_rep_flat, sizeLine_eq]; omega) (Heap.get?_push_size _ rfl) q
/-- x in t, x not in t: t a tuple of data of any depth -/
def rInT (K : PySem.W.Frag) (neg : Bool) : R2 := fun x y H Q => ∃ d ds, Dp K H x d ∧ Dp K H y (.tuple ds) ∧ SeqAt.shaped d = true ∧ SeqAt.shaped (.tuple ds) = true ∧ Q (.bl (if neg = true then !(ds.any fun z => PyData.eqv z d) else ds.any fun z => PyData.eqv z d)) H
theorem op_inT (hu : X.A.units + 65 < cLine) : OpR X (compareOp .In) (rInT X.K false) := by
  intro pins s σ H x y v u Q I rx ry w
  obtain ⟨d, ds, hd, he, sd, se, q⟩ := w
  obtain ⟨_, r1⟩ := Dp.reads I d x v hd rx
  obtain ⟨_, r2⟩ := Dp.reads I (.tuple ds) y u he ry
  have c := SeqAt.canLay_of_shaped se
  exact SeqAt.in_tuple_reads r2 r1 c (SeqAt.canLay_of_shaped sd) (room_in_shaped sd hu) ⟨.bl _, H, I, rfl, q⟩
theorem op_ninT (hu : X.A.units + 65 < cLine) : OpR X (compareOp .NotIn) (rInT X.K true) := by
  intro pins s σ H x y v u Q I rx ry w
  obtain ⟨d, ds, hd, he, sd, se, q⟩ := w
  obtain ⟨_, r1⟩ := Dp.reads I d x v hd rx
  obtain ⟨_, r2⟩ := Dp.reads I (.tuple ds) y u he ry
  have c := SeqAt.canLay_of_shaped se
  exact SeqAt.notIn_tuple_reads r2 r1 c (SeqAt.canLay_of_shaped sd) (room_in_shaped sd hu) ⟨.bl _, H, I, rfl, q⟩
/-- t.index(x): the first place of an equal one -/
def rIndexT (K : PySem.W.Frag) : V → List V → Hp → VK → Prop := fun x xs H Q => ∃ (a : Addr) (y : V) (d : PyData) (ds : List PyData) (j : Nat) (z : PyData), x = V.ref a ∧ xs = [y] ∧ Dp K H (V.ref a) (.tuple ds) ∧ Dp K H y d ∧
  SeqAt.shaped (.tuple ds) = true ∧ SeqAt.shaped d = true ∧ ds[j]? = some z ∧ PyData.eqv z d = true ∧ (∀ (m : Nat) (z' : PyData), m < j → ds[m]? = some z' → PyData.eqv z' d = false) ∧ Q (.int (j : Nat)) H
theorem mt_indexT (hu : X.A.units + 65 < cLine) : MtR X "tuple.index" (rIndexT X.K) := by
  intro pins s σ H x xs v us Q I rx rxs w
  obtain ⟨a, y, d, ds, j, z, rfl, rfl, hl, hy, sl, sd, hz, hzj, hno, q⟩ := w
  cases rx
  obtain ⟨uy, rfl, ry⟩ := vals1 rxs
  obtain ⟨_, r1⟩ := Dp.reads I d y uy hy ry
  have lay : PyData.canLayAll0 ds = true := SeqAt.canLay_of_shaped sl
  have room : X.A.units + 1 + min (PyData.depthAll ds) d.depth < cLine := room_in_shaped sd hu
  cases hl with
  | tup hs ha =>
    obtain ⟨its, rv, ⟨⟨c0, d0, dt, sls⟩, ho, hc, n, hdt⟩, hlen⟩ := I.tuple hs
    simp only at hc hdt
    subst hc hdt
    obtain ⟨as, h4⟩ := Dp.readsAll I ds _ its ha rv
    have hn : its.length = ds.length := SeqAt.ReadsAll.length ds its as h4
    have hmap : its.map (SeqAt.readOf s.heap) = ds := SeqAt.readsAll_map ds its as lay h4
    have jd := (List.getElem?_eq_some_iff.mp hz).1
    have hj : j < its.toArray.size := by rw [List.size_toArray, hn]; exact jd
    have there : ∀ (m : Nat) (hm : m < its.toArray.size) (z' : PyData), ds[m]? = some z' → SeqAt.readOf s.heap its.toArray[m] = z' := by
      intro m hm z' e
      have hm2 : m < its.length := by simpa using hm
      rw [← hmap, List.getElem?_map, List.getElem?_eq_getElem hm2] at e
      have e' := Option.some.inj e
      simpa using e'
    have eqs := SeqAt.items_eqAt (vs := its.toArray) (show ReadsAll s.heap its.toArray.toList ds as from h4) r1 lay (SeqAt.canLay_of_shaped sd) room
    refine call_meets F.slot_tuple_index ⟨_, ho, rfl⟩ F.entry_tuple_index (F.args_tuple_index_2 _ _) (TI.tuple_indexAt a its.toArray n d0 sls uy (fun u => PyData.eqv (SeqAt.readOf s.heap u) d) j hj ?_ ?_) ⟨ho, eqs, ⟨.int (j : Nat), H, I.tok _, ⟨_, rfl⟩, q⟩⟩
    · show PyData.eqv (SeqAt.readOf s.heap its.toArray[j]) d = true
      rw [there j hj z hz]
      exact hzj
    · intro m hm hmj
      have hmd : m < ds.length := by omega
      have e : ds[m]? = some ds[m] := List.getElem?_eq_getElem hmd
      show PyData.eqv (SeqAt.readOf s.heap its.toArray[m]) d = false
      rw [there m hm _ e]
      exact hno m _ hmj e
end
end ZT
set_option Elab.async false
set_option linter.all false
set_option maxRecDepth 100000
set_option maxHeartbeats 2000000
/-! DL0: data seen through a view G of the tracked heap; a mirror in a small result type; judgements that a piece of syntax does what its mirror says. -/
namespace DL
open PySem L2
open ZT (PT)

abbrev PD := PySem.PyData
abbrev Fg := PySem.W.Frag
abbrev Sub (G H : Hp) : Prop := ∀ a o, G a = some o → H a = some o

/-! ### data -/
def keyD : Key → PD
  | .inl i => .int i
  | .inr x => .str x
mutual
inductive DR (K : Fg) (G : Hp) : V → PD → Prop
  | non : DR K G .non .none
  | bl (b : Bool) : DR K G (.bl b) (.bool b)
  | int (i : Int) : DR K G (.int i) (.int i)
  | str (x : Str) : DR K G (.str x) (.str x)
  | lst {a : Addr} {xs : List V} {ds : List PD} : G a = some (.lst xs) → DRs K G xs ds → DR K G (.ref a) (.list ds)
  | tup {a : Addr} {xs : List V} {ds : List PD} : PT K G a xs → DRs K G xs ds → DR K G (.ref a) (.tuple ds)
  | dct {a : Addr} {kvs : List (Key × V)} {ds : List (PD × PD)} : G a = some (.dK kvs) → DKs K G kvs ds → DR K G (.ref a) (.dict ds)
inductive DRs (K : Fg) (G : Hp) : List V → List PD → Prop
  | nil : DRs K G [] []
  | cons {v : V} {vs : List V} {d : PD} {ds : List PD} : DR K G v d → DRs K G vs ds → DRs K G (v :: vs) (d :: ds)
inductive DKs (K : Fg) (G : Hp) : List (Key × V) → List (PD × PD) → Prop
  | nil : DKs K G [] []
  | cons {k : Key} {v : V} {kvs : List (Key × V)} {d : PD} {ds : List (PD × PD)} : DR K G v d → DKs K G kvs ds → DKs K G ((k, v) :: kvs) ((keyD k, d) :: ds)
end

theorem sbPT {K : Fg} {G G' : Hp} {a : Addr} {xs : List V} (e : Sub G G') (h : PT K G a xs) : PT K G' a xs := by
  rcases h with ⟨o, h, hd⟩ | h
  · exact .inl ⟨o, e _ _ h, hd⟩
  · exact .inr h
theorem subT {K : Fg} {G G' : Hp} {a : Addr} {xs : List V} (e : Sub G G') (h : PT K G a xs) : SqT K G' a xs := (sbPT e h).sq
mutual
theorem DR.mono {K : Fg} {G G' : Hp} (e : Sub G G') : ∀ {v : V} {d : PD}, DR K G v d → DR K G' v d
  | _, _, .non => .non
  | _, _, .bl b => .bl b
  | _, _, .int i => .int i
  | _, _, .str x => .str x
  | _, _, .lst h r => .lst (e _ _ h) (DRs.mono e r)
  | _, _, .tup h r => .tup (sbPT e h) (DRs.mono e r)
  | _, _, .dct h r => .dct (e _ _ h) (DKs.mono e r)
theorem DRs.mono {K : Fg} {G G' : Hp} (e : Sub G G') : ∀ {vs : List V} {ds : List PD}, DRs K G vs ds → DRs K G' vs ds
  | _, _, .nil => .nil
  | _, _, .cons h r => .cons (DR.mono e h) (DRs.mono e r)
theorem DKs.mono {K : Fg} {G G' : Hp} (e : Sub G G') : ∀ {kvs : List (Key × V)} {ds : List (PD × PD)}, DKs K G kvs ds → DKs K G' kvs ds
  | _, _, .nil => .nil
  | _, _, .cons h r => .cons (DR.mono e h) (DKs.mono e r)
end
mutual
theorem DR.dp {K : Fg} {G : Hp} : ∀ {v : V} {d : PD}, d.canLay0 = true → DR K G v d → Dp K G v d
  | _, _, _, .non => .non
  | _, _, _, .bl b => .bl b
  | _, _, _, .int i => .int i
  | _, _, _, .str x => .str x
  | _, _, c, .lst h r => .lst (SqL.of h) (DRs.dp c r)
  | _, _, c, .tup h r => .tup h.sq (DRs.dp c r)
  | _, _, c, .dct h r => by cases c
theorem DRs.dp {K : Fg} {G : Hp} : ∀ {vs : List V} {ds : List PD}, PyData.canLayAll0 ds = true → DRs K G vs ds → DpAll K G vs ds
  | _, _, _, .nil => .nil
  | _, _, c, .cons h r => .cons (DR.dp (Bool.and_eq_true_iff.mp c).1 h) (DRs.dp (Bool.and_eq_true_iff.mp c).2 r)
end
/-- an item as it is walked: data (true), or a pair that is let go at once (false) -/
def DRb (K : Fg) (G : Hp) : Bool → V → PD → Prop
  | true, v, d => DR K G v d
  | false, v, d => DR K G v d ∨ ∃ (a : Addr) (xs : List V) (ds : List PD), v = .ref a ∧ d = .tuple ds ∧ SqT K G a xs ∧ DRs K G xs ds
theorem DRb.of {K : Fg} {G : Hp} : ∀ {st : Bool} {v : V} {d : PD}, DR K G v d → DRb K G st v d
  | true, _, _, h => h
  | false, _, _, h => .inl h
theorem DRb.tup {K : Fg} {G : Hp} : ∀ {st : Bool} {v : V} {ds : List PD}, DRb K G st v (.tuple ds) → ∃ (a : Addr) (xs : List V), v = .ref a ∧ SqT K G a xs ∧ DRs K G xs ds
  | true, _, _, h => by
    cases h with
    | tup a b => exact ⟨_, _, rfl, a.sq, b⟩
  | false, _, _, .inl h => by
    cases h with
    | tup a b => exact ⟨_, _, rfl, a.sq, b⟩
  | false, _, _, .inr ⟨a, xs, ds, e1, e2, h1, h2⟩ => by
    cases e2
    exact ⟨a, xs, e1, h1, h2⟩
theorem DRs.length {K : Fg} {G : Hp} : ∀ {vs : List V} {ds : List PD}, DRs K G vs ds → vs.length = ds.length
  | _, _, .nil => rfl
  | _, _, .cons _ r => by rw [List.length_cons, List.length_cons, DRs.length r]
theorem DRs.get {K : Fg} {G : Hp} : ∀ {vs : List V} {ds : List PD} {i : Nat} {d : PD}, DRs K G vs ds → ds[i]? = some d → ∃ v, vs[i]? = some v ∧ DR K G v d
  | _, _, _, _, .nil, h => by simp at h
  | _, _, 0, _, .cons (v := v) h r, e => by
    rw [List.getElem?_cons_zero] at e
    cases e
    exact ⟨v, by rw [List.getElem?_cons_zero], h⟩
  | _, _, i + 1, _, .cons h r, e => by
    rw [List.getElem?_cons_succ] at e
    obtain ⟨v, h1, h2⟩ := DRs.get r e
    exact ⟨v, by rw [List.getElem?_cons_succ]; exact h1, h2⟩
theorem DRs.getV {K : Fg} {G : Hp} : ∀ {vs : List V} {ds : List PD} {i : Nat} {v : V}, DRs K G vs ds → vs[i]? = some v → ∃ d, ds[i]? = some d ∧ DR K G v d
  | _, _, _, _, .nil, h => by simp at h
  | _, _, 0, _, .cons (d := d) h r, e => by
    rw [List.getElem?_cons_zero] at e
    cases e
    exact ⟨d, by rw [List.getElem?_cons_zero], h⟩
  | _, _, i + 1, _, .cons h r, e => by
    rw [List.getElem?_cons_succ] at e
    obtain ⟨d, h1, h2⟩ := DRs.getV r e
    exact ⟨d, by rw [List.getElem?_cons_succ]; exact h1, h2⟩
theorem DRs.append {K : Fg} {G : Hp} : ∀ {vs us : List V} {ds es : List PD}, DRs K G vs ds → DRs K G us es → DRs K G (vs ++ us) (ds ++ es)
  | _, _, _, _, .nil, r => r
  | _, _, _, _, .cons h t, r => .cons h (DRs.append t r)
theorem DRs.drop {K : Fg} {G : Hp} : ∀ {vs : List V} {ds : List PD} (n : Nat), DRs K G vs ds → DRs K G (vs.drop n) (ds.drop n)
  | _, _, 0, r => r
  | _, _, _ + 1, .nil => .nil
  | _, _, n + 1, .cons _ r => DRs.drop n r
theorem DRs.take {K : Fg} {G : Hp} : ∀ {vs : List V} {ds : List PD} (n : Nat), DRs K G vs ds → DRs K G (vs.take n) (ds.take n)
  | _, _, 0, _ => .nil
  | _, _, _ + 1, .nil => .nil
  | _, _, n + 1, .cons h r => .cons h (DRs.take n r)
theorem DRs.dropLast {K : Fg} {G : Hp} {vs : List V} {ds : List PD} (r : DRs K G vs ds) : DRs K G vs.dropLast ds.dropLast := by
  rw [List.dropLast_eq_take, List.dropLast_eq_take, r.length]
  exact r.take _
theorem DRs.reverse {K : Fg} {G : Hp} : ∀ {vs : List V} {ds : List PD}, DRs K G vs ds → DRs K G vs.reverse ds.reverse
  | _, _, .nil => .nil
  | _, _, .cons h r => by
    rw [List.reverse_cons, List.reverse_cons]
    exact (DRs.reverse r).append (.cons h .nil)
theorem DRs.set {K : Fg} {G : Hp} {v : V} {d : PD} (q : DR K G v d) : ∀ {vs : List V} {ds : List PD} (i : Nat), DRs K G vs ds → DRs K G (vs.set i v) (ds.set i d)
  | _, _, _, .nil => .nil
  | _, _, 0, .cons _ r => .cons q r
  | _, _, i + 1, .cons h r => .cons h (DRs.set q i r)
theorem DRs.ints {K : Fg} {G : Hp} : ∀ (ns : List Int), DRs K G (ns.map V.int) (ns.map PyData.int)
  | [] => .nil
  | n :: r => .cons (.int n) (DRs.ints r)
theorem DRs.of_ints {K : Fg} {G : Hp} : ∀ {vs : List V} {ns : List Int}, DRs K G vs (ns.map PyData.int) → vs = ns.map V.int
  | _, [], r => by cases r; rfl
  | _, n :: t, r => by
    cases r with
    | cons h q =>
      cases h
      rw [DRs.of_ints q]
      rfl
theorem DRs.of_strs {K : Fg} {G : Hp} : ∀ {vs : List V} {ns : List Str}, DRs K G vs (ns.map PyData.str) → vs = ns.map V.str
  | _, [], r => by cases r; rfl
  | _, n :: t, r => by
    cases r with
    | cons h q =>
      cases h
      rw [DRs.of_strs q]
      rfl
theorem DRs.of_bools {K : Fg} {G : Hp} : ∀ {vs : List V} {ns : List Bool}, DRs K G vs (ns.map PyData.bool) → vs = ns.map V.bl
  | _, [], r => by cases r; rfl
  | _, n :: t, r => by
    cases r with
    | cons h q =>
      cases h
      rw [DRs.of_bools q]
      rfl

/-! ### the bag of draws -/
structure Bag where
  s0 : Nat
  s1 : Nat
  s2 : Nat
  cells : List Nat
/-- where the bag stands, and its cells; the tables of code objects -/
structure Wd where
  bg : Option (Addr × Addr)
  tb : List (Addr × Str)
def BagAt (w : Wd) (H : Hp) (B : Bag) : Prop := ∀ b l, w.bg = some (b, l) → H b = some (.lst [.int (B.s0 : Int), .int (B.s1 : Int), .int (B.s2 : Int), .ref l]) ∧ l ≠ b ∧ H l = some (.lst (B.cells.map fun n : Nat => V.int (n : Int)))
/-- not the bag | nor its cells -/
def Nb1 (w : Wd) (a : Addr) : Prop := (∀ b l, w.bg = some (b, l) → b ≠ a) ∧ ∀ t ∈ w.tb, t.1 ≠ a
def Nb (w : Wd) (a : Addr) : Prop := (∀ b l, w.bg = some (b, l) → b ≠ a ∧ l ≠ a) ∧ ∀ t ∈ w.tb, t.1 ≠ a
theorem Nb.one {w : Wd} {a : Addr} (h : Nb w a) : Nb1 w a := ⟨fun b l e => (h.1 b l e).1, h.2⟩
theorem tabs_upd {T : List (Addr × Str)} {H : Hp} {p : Addr} {o : HO} (h : LamX.Tabs T H) (n : ∀ t ∈ T, t.1 ≠ p) (x : ∀ q, H p ≠ some (LamX.CodeO p q)) : LamX.Tabs T (upd H p o) := fun t ht => by
  obtain ⟨ps, h1, h2, h3⟩ := h t ht
  refine ⟨ps, by rw [upd_ne (n t ht)]; exact h1, h2, fun pos cv hc => ?_⟩
  obtain ⟨c, e1, e2⟩ := h3 pos cv hc
  refine ⟨c, e1, ?_⟩
  by_cases z : c = p
  · subst z; exact absurd e2 (x _)
  · rw [upd_ne z]; exact e2
theorem noCo {c : Addr} {q : Str} {o : HO} (h : ∀ phi, o ≠ .ext phi) : (some o : Option HO) ≠ some (LamX.CodeO c q) := fun z => h _ (Option.some.inj z)

/-! ### steps of the heap -/
structure Ok (w : Wd) (G H : Hp) (B : Bag) : Prop where
  sub : Sub G H
  bag : BagAt w H B
  gb : ∀ b l, w.bg = some (b, l) → G b = none
  tabs : LamX.Tabs w.tb H
  gt : ∀ a ps, G a ≠ some (.tbl ps)
  gl : ∀ b l, w.bg = some (b, l) → G l = some (.lst (B.cells.map fun n : Nat => V.int (n : Int)))
/-- nothing, or a table -/
def NN (x : Option HO) : Prop := x = none ∨ ∃ ps, x = some (.tbl ps)
theorem NN.ne {H : Hp} {a p : Addr} {o : HO} (e : H a = some o) (nt : ∀ ps, o ≠ .tbl ps) (h : NN (H p)) : a ≠ p := fun z => by
  rw [← z, e] at h
  rcases h with h | ⟨ps, h⟩
  · cases h
  · exact nt ps (Option.some.inj h)
structure Step (w : Wd) (G H G' H' : Hp) : Prop where
  exG : Sub G G'
  fr : ∀ a o, G' a = some o → G a = some o ∨ NN (H a)
  keep : ∀ a o, Nb1 w a → (∀ ps, o ≠ .tbl ps) → H a = some o → H' a = some o
  there : ∀ a o, (∀ ps, o ≠ .tbl ps) → H a = some o → ∃ o', (∀ ps, o' ≠ .tbl ps) ∧ H' a = some o'
section
variable {w : Wd} {G H G' H' G2 H2 : Hp} {B B' : Bag} {p : Addr} {o : HO}
theorem Step.refl : Step w G H G H := ⟨fun _ _ h => h, fun _ _ h => .inl h, fun _ _ _ _ h => h, fun _ o n h => ⟨o, n, h⟩⟩
theorem Step.back0 (s : Step w G H G' H') (h : NN (H' p)) : NN (H p) := by
  cases e : H p with
  | none => exact .inl rfl
  | some u =>
    by_cases nt : ∃ ps, u = .tbl ps
    · obtain ⟨ps, rfl⟩ := nt
      exact .inr ⟨ps, rfl⟩
    · obtain ⟨o', n, e'⟩ := s.there p u (fun ps z => nt ⟨ps, z⟩) e
      rw [e'] at h
      rcases h with h | ⟨ps, h⟩
      · cases h
      · exact absurd (Option.some.inj h) (n ps)
theorem Step.trans (a : Step w G H G' H') (b : Step w G' H' G2 H2) : Step w G H G2 H2 := by
  refine ⟨fun c o h => b.exG c o (a.exG c o h), fun c o h => ?_, fun c o hw n h => b.keep c o hw n (a.keep c o hw n h), fun c o n h => ?_⟩
  · rcases b.fr c o h with q | q
    · exact a.fr c o q
    · exact .inr (a.back0 q)
  · obtain ⟨o1, n1, e1⟩ := a.there c o n h
    exact b.there c o1 n1 e1
theorem new_sub (hs : Sub G H) (hp : H p = none) : Sub G (upd G p o) := fun a u h => by
  have gp : G p = none := by
    cases e : G p with
    | none => rfl
    | some u => rw [hs p u e] at hp; cases hp
  rw [upd_ne (ne_of_none h gp)]; exact h
/-- a new object, kept in the view -/
theorem Step.new (hs : Sub G H) (hp : H p = none) : Step w G H (upd G p o) (upd H p o) := by
  have gp : G p = none := by
    cases e : G p with
    | none => rfl
    | some u => rw [hs p u e] at hp; cases hp
  refine ⟨fun a u h => ?_, fun a u h => ?_, fun a u _ _ h => ?_, fun a u n h => ?_⟩
  · rw [upd_ne (ne_of_none h gp)]; exact h
  · by_cases e : a = p
    · subst e; exact .inr (.inl hp)
    · rw [upd_ne e] at h; exact .inl h
  · rw [upd_ne (ne_of_none h hp)]; exact h
  · exact ⟨u, n, by rw [upd_ne (ne_of_none h hp)]; exact h⟩
/-- .. not kept in it -/
theorem Step.newH (hp : H p = none) : Step w G H G (upd H p o) :=
  ⟨fun _ _ h => h, fun _ _ h => .inl h, fun a u _ _ h => by rw [upd_ne (ne_of_none h hp)]; exact h, fun a u n h => ⟨u, n, by rw [upd_ne (ne_of_none h hp)]; exact h⟩⟩
theorem BagAt.keep (h : BagAt w H B) (k : ∀ a o, H a = some o → H' a = some o) : BagAt w H' B := fun b l e => by
  obtain ⟨h1, h2, h3⟩ := h b l e
  exact ⟨k _ _ h1, h2, k _ _ h3⟩
theorem Ok.nb (h : Ok w G H B) (hp : H p = none) : Nb w p := ⟨fun b l e => by
  obtain ⟨h1, _, h3⟩ := h.bag b l e
  exact ⟨ne_of_none h1 hp, ne_of_none h3 hp⟩, fun t ht => by
  obtain ⟨ps, h1, _⟩ := h.tabs t ht
  exact ne_of_none h1 hp⟩
theorem tabs_new {T : List (Addr × Str)} {H : Hp} {p : Addr} {o : HO} (h : LamX.Tabs T H) (hp : H p = none) : LamX.Tabs T (upd H p o) := h.ext fun a u q => by rw [upd_ne (ne_of_none q hp)]; exact q
/-- an object that is neither the bag's nor in the view changes -/
theorem Ok.mut (h : Ok w G H B) (hg : G p = none) (hb : Nb w p) (hx : ∀ q, H p ≠ some (LamX.CodeO p q)) : Ok w G (upd H p o) B := by
  refine ⟨fun a u q => ?_, fun b l e => ?_, h.gb, tabs_upd h.tabs hb.2 hx, h.gt, h.gl⟩
  · have e : a ≠ p := fun z => by rw [z, hg] at q; cases q
    rw [upd_ne e]; exact h.sub a u q
  · obtain ⟨h1, h2, h3⟩ := h.bag b l e
    obtain ⟨n1, n2⟩ := hb.1 b l e
    exact ⟨by rw [upd_ne n1]; exact h1, h2, by rw [upd_ne n2]; exact h3⟩
theorem gt_upd {G : Hp} {p : Addr} {o : HO} (h : ∀ a ps, G a ≠ some (.tbl ps)) (nt : ∀ ps, o ≠ .tbl ps) : ∀ a ps, upd G p o a ≠ some (.tbl ps) := fun a ps z => by
  by_cases e : a = p
  · subst e; rw [upd_same] at z; exact nt ps (Option.some.inj z)
  · rw [upd_ne e] at z; exact h a ps z
theorem Ok.new (h : Ok w G H B) (hp : H p = none) (nt : ∀ ps, o ≠ .tbl ps := by intro _ z; cases z) : Ok w (upd G p o) (upd H p o) B := by
  refine ⟨fun a u q => ?_, h.bag.keep fun a u q => by rw [upd_ne (ne_of_none q hp)]; exact q, fun b l e => ?_, tabs_new h.tabs hp, gt_upd h.gt nt, fun b l e => ?_⟩
  · by_cases e : a = p
    · subst e; rw [upd_same] at q ⊢; exact q
    · rw [upd_ne e] at q ⊢; exact h.sub a u q
  · obtain ⟨h1, _⟩ := h.bag b l e
    rw [upd_ne (ne_of_none h1 hp)]
    exact h.gb b l e
  · obtain ⟨_, _, h3⟩ := h.bag b l e
    rw [upd_ne (ne_of_none h3 hp)]
    exact h.gl b l e
theorem Ok.newH (h : Ok w G H B) (hp : H p = none) : Ok w G (upd H p o) B :=
  ⟨fun a u q => by rw [upd_ne (ne_of_none (h.sub a u q) hp)]; exact h.sub a u q, h.bag.keep fun a u q => by rw [upd_ne (ne_of_none q hp)]; exact q, h.gb, tabs_new h.tabs hp, h.gt, h.gl⟩
theorem Ok.free (h : Ok w G H B) (hp : H p = none) : G p = none := by
  cases e : G p with
  | none => rfl
  | some u => rw [h.sub p u e] at hp; cases hp
end

/-! ### results -/
inductive Res (α : Type) where
  | ok (a : α) (B : Bag)
  | exc (c : Str) (as : List (Str × PD)) (B : Bag)
  | bad
def Res.bind {α β : Type} (r : Res α) (f : α → Bag → Res β) : Res β := match r with
  | .ok a B => f a B
  | .exc c as B => .exc c as B
  | .bad => .bad
/-- an attribute list of an exception -/
inductive Fs (K : Fg) (G : Hp) : List (Str × V) → List (Str × PD) → Prop
  | nil : Fs K G [] []
  | cons {f : Str} {v : V} {d : PD} {fs : List (Str × V)} {as : List (Str × PD)} : DR K G v d → Fs K G fs as → Fs K G ((f, v) :: fs) ((f, d) :: as)
def ExcP (K : Fg) (mg : Str → Option Value) (w : Wd) (G H : Hp) (c : Str) (as : List (Str × PD)) (B' : Bag) (E : XK) : Prop :=
  ∀ (cls : Value) (dd : Addr) (fs : List (Str × V)) (G' H' : Hp), mg c = some cls → Step w G H G' H' → Ok w G' H' B' → H' dd = some (.xd fs) → Fs K G' fs as → E cls (some dd) H'
/-- what is wanted of a result: R of what comes of it, E of an exception -/
def PostR {α β : Type} (K : Fg) (mg : Str → Option Value) (w : Wd) (G H : Hp) (Rl : Hp → β → α → Prop) (r : Res α) (Q : β → Hp → Prop) (E : XK) : Prop := match r with
  | .ok a B' => ∀ (v : β) (G' H' : Hp), Step w G H G' H' → Ok w G' H' B' → Rl G' v a → Q v H'
  | .exc c as B' => ExcP K mg w G H c as B' E
  | .bad => False
abbrev PostE (K : Fg) (mg : Str → Option Value) (w : Wd) (G H : Hp) (r : Res PD) (Q : VK) (E : XK) : Prop := PostR K mg w G H (fun G' v d => DR K G' v d) r Q E
abbrev PostT (K : Fg) (mg : Str → Option Value) (w : Wd) (G H : Hp) (r : Res Bool) (Q : Bool → Hp → Prop) (E : XK) : Prop := PostR K mg w G H (fun _ c b => c = b) r Q E
/-- the chain of two -/
theorem PostR.step {α β : Type} {K : Fg} {mg : Str → Option Value} {w : Wd} {G H G' H' : Hp} {Rl : Hp → β → α → Prop} {r : Res α} {Q : β → Hp → Prop} {E : XK} (s : Step w G H G' H') (h : PostR K mg w G H Rl r Q E) : PostR K mg w G' H' Rl r Q E := by
  cases r with
  | ok a B => exact fun v G2 H2 s2 o d => h v G2 H2 (s.trans s2) o d
  | exc c as B => exact fun cls dd fs G2 H2 m s2 o d f => h cls dd fs G2 H2 m (s.trans s2) o d f
  | bad => exact h
theorem PostR.bind {α β γ δ : Type} {K : Fg} {mg : Str → Option Value} {w : Wd} {G H : Hp} {Ra : Hp → β → α → Prop} {Rb : Hp → δ → γ → Prop} {r : Res α} {f : α → Bag → Res γ} {Q : δ → Hp → Prop} {Q1 : β → Hp → Prop} {E : XK}
    (h : PostR K mg w G H Rb (r.bind f) Q E) (k : ∀ a B' v G' H', Step w G H G' H' → Ok w G' H' B' → Ra G' v a → PostR K mg w G' H' Rb (f a B') Q E → Q1 v H') : PostR K mg w G H Ra r Q1 E := by
  cases r with
  | ok a B => exact fun v G2 H2 s2 o d => k a B v G2 H2 s2 o d (PostR.step s2 h)
  | exc c as B => exact h
  | bad => exact h

/-! ### what the slots hold -/
inductive SV where
  | d (x : PD)
  | own (xs : List PD)
  | bag
  | ownD (ds : List (PD × PD))
abbrev EnvM := List (Option SV)
def SR (K : Fg) (w : Wd) (H0 G H : Hp) (v : V) : SV → Prop
  | .d x => DR K G v x
  | .own xs => ∃ (p : Addr) (vs : List V), v = .ref p ∧ G p = none ∧ NN (H0 p) ∧ Nb w p ∧ H p = some (.lst vs) ∧ DRs K G vs xs
  | .bag => ∃ b l, w.bg = some (b, l) ∧ v = .ref b
  | .ownD ds => ∃ (p : Addr) (kvs : List (Key × V)), v = .ref p ∧ G p = none ∧ NN (H0 p) ∧ Nb w p ∧ H p = some (.dK kvs) ∧ DKs K G kvs ds
def SV.isOwn : SV → Bool
  | .own _ => true
  | .ownD _ => true
  | _ => false
/-- the defs that make lambdas, in any of the laws; their tables of code objects -/
def LAMS : List Str := ["law", "beginnings", "_law_begins", "as_terms", "_law_terms", "_law_word_asked", "_law_is_summer_right", "infixes", "_law_are_ratios_right", "_law_are_slips_right", "_law_is_machine_right", "_law_is_long_right", "_law_are_classes_right", "_law_is_text_right", "_law_are_judged"]
def lamQ (x : Str) : Str := x ++ ".<locals>." ++ "<lambda>"
def TK (K : Fg) : List (Addr × Str) := LAMS.filterMap fun x => (PySem.W.tabIn K x).map fun cp => (cp.2, lamQ x)
structure Rel (K : Fg) (w : Wd) (G0 H0 : Hp) (σ : L2.St) (env : EnvM) (G H : Hp) (B : Bag) : Prop where
  ok : Ok w G H B
  ent : Step w G0 H0 G H
  len : env.length = σ.length
  slot : ∀ (i : Nat) (sv : SV), env[i]? = some (some sv) → ∃ v, σ[i]? = some (some v) ∧ SR K w H0 G H v sv
  dist : ∀ (i j : Nat) (si sj : SV) (p : Addr), i ≠ j → env[i]? = some (some si) → si.isOwn = true → env[j]? = some (some sj) → sj.isOwn = true → σ[i]? = some (some (.ref p)) → σ[j]? ≠ some (some (.ref p))
  wk : w.tb = TK K
section
variable {K : Fg} {w : Wd} {G0 H0 : Hp} {σ : L2.St} {env : EnvM} {G H G' H' : Hp} {B B' : Bag} {v : V} {sv : SV}
theorem SR.step (s : Step w G H G' H') (h : SR K w H0 G H v sv) : SR K w H0 G' H' v sv := by
  cases sv with
  | d x => exact DR.mono s.exG h
  | own xs =>
    obtain ⟨p, vs, e, g, h0, hw, hp, r⟩ := h
    refine ⟨p, vs, e, ?_, h0, hw, s.keep p _ hw.one (fun _ z => by cases z) hp, r.mono s.exG⟩
    cases q : G' p with
    | none => rfl
    | some o =>
      rcases s.fr p o q with z | z
      · rw [g] at z; cases z
      · exact absurd rfl (z.ne hp (fun _ z => by cases z))
  | bag => exact h
  | ownD ds =>
    obtain ⟨p, vs, e, g, h0, hw, hp, r⟩ := h
    refine ⟨p, vs, e, ?_, h0, hw, s.keep p _ hw.one (fun _ z => by cases z) hp, r.mono s.exG⟩
    cases q : G' p with
    | none => rfl
    | some o =>
      rcases s.fr p o q with z | z
      · rw [g] at z; cases z
      · exact absurd rfl (z.ne hp (fun _ z => by cases z))
theorem Rel.step (R : Rel K w G0 H0 σ env G H B) (s : Step w G H G' H') (o : Ok w G' H' B') : Rel K w G0 H0 σ env G' H' B' :=
  ⟨o, R.ent.trans s, R.len, fun i sv e => let ⟨v, h1, h2⟩ := R.slot i sv e; ⟨v, h1, h2.step s⟩, R.dist, R.wk⟩
end

/-! ### the judgements -/
structure ED (X : Cx) (W : WX) (e : Expr) (t : TE) (m : EnvM → Bag → Res PD) : Prop where
  pe : PE X e t
  sem : ∀ (w : Wd) (G0 H0 : Hp) (σ : L2.St) (env : EnvM) (G H : Hp) (B : Bag) (Q : VK), Rel X.K w G0 H0 σ env G H B →
    PostE X.K X.mg w G H (m env B) Q (fun c d H' => W c d σ H') → t σ H Q
structure TD (X : Cx) (W : WX) (e : Expr) (t : TT) (m : EnvM → Bag → Res Bool) : Prop where
  pe : PT X e t
  sem : ∀ (w : Wd) (G0 H0 : Hp) (σ : L2.St) (env : EnvM) (G H : Hp) (B : Bag) (Q : Bool → Hp → Prop), Rel X.K w G0 H0 σ env G H B →
    PostT X.K X.mg w G H (m env B) Q (fun c d H' => W c d σ H') → t σ H Q
structure WD (X : Cx) (W : WX) (e : Expr) (t : TT) (m : EnvM → Bag → Res Bool) : Prop where
  pe : PW X e t
  sem : ∀ (w : Wd) (G0 H0 : Hp) (σ : L2.St) (env : EnvM) (G H : Hp) (B : Bag) (Q : Bool → Hp → Prop), Rel X.K w G0 H0 σ env G H B →
    PostT X.K X.mg w G H (m env B) Q (fun c d H' => W c d σ H') → t σ H Q
/-- an argument: data, or the bag -/
def AR (K : Fg) (w : Wd) (G : Hp) (v : V) : SV → Prop
  | .d x => DR K G v x
  | .own _ => False
  | .bag => ∃ b l, w.bg = some (b, l) ∧ v = .ref b
  | .ownD _ => False
inductive ARs (K : Fg) (w : Wd) (G : Hp) : List V → List SV → Prop
  | nil : ARs K w G [] []
  | cons {v : V} {vs : List V} {s : SV} {ss : List SV} : AR K w G v s → ARs K w G vs ss → ARs K w G (v :: vs) (s :: ss)
theorem AR.mono {K : Fg} {w : Wd} {G G' : Hp} {v : V} {s : SV} (e : Sub G G') (h : AR K w G v s) : AR K w G' v s := by
  cases s with
  | d x => exact DR.mono e h
  | own xs => exact h
  | bag => exact h
  | ownD xs => exact h
theorem ARs.mono {K : Fg} {w : Wd} {G G' : Hp} (e : Sub G G') : ∀ {vs : List V} {ss : List SV}, ARs K w G vs ss → ARs K w G' vs ss
  | _, _, .nil => .nil
  | _, _, .cons h r => .cons (h.mono e) (ARs.mono e r)
/-- an argument's expression -/
structure GD (X : Cx) (W : WX) (e : Expr) (t : TE) (m : EnvM → Bag → Res SV) : Prop where
  pe : PE X e t
  sem : ∀ (w : Wd) (G0 H0 : Hp) (σ : L2.St) (env : EnvM) (G H : Hp) (B : Bag) (Q : VK), Rel X.K w G0 H0 σ env G H B →
    PostR X.K X.mg w G H (fun G' v s => AR X.K w G' v s) (m env B) Q (fun c d H' => W c d σ H') → t σ H Q
structure AD (X : Cx) (W : WX) (es : List Expr) (t : TA) (m : EnvM → Bag → Res (List SV)) : Prop where
  pe : PA X es t
  sem : ∀ (w : Wd) (G0 H0 : Hp) (σ : L2.St) (env : EnvM) (G H : Hp) (B : Bag) (Q : List V → Hp → Prop), Rel X.K w G0 H0 σ env G H B →
    PostR X.K X.mg w G H (fun G' vs ss => ARs X.K w G' vs ss) (m env B) Q (fun c d H' => W c d σ H') → t σ H Q
/-- a statement's result -/
inductive SRes where
  | nx (env : EnvM) (B : Bag)
  | bk (env : EnvM) (B : Bag)
  | ct (env : EnvM) (B : Bag)
  | ret (d : PD) (B : Bag)
  | exc (c : Str) (as : List (Str × PD)) (env : EnvM) (B : Bag)
  | bad
def PostS (K : Fg) (mg : Str → Option Value) (w : Wd) (G0 H0 G : Hp) (W : WX) (D : Ends) : SRes → Prop
  | .nx env' B' => ∀ (σ' : L2.St) (G' H' : Hp), Rel K w G0 H0 σ' env' G' H' B' → Sub G G' → D.nx σ' H'
  | .bk env' B' => ∀ (σ' : L2.St) (G' H' : Hp), Rel K w G0 H0 σ' env' G' H' B' → Sub G G' → D.bk σ' H'
  | .ct env' B' => ∀ (σ' : L2.St) (G' H' : Hp), Rel K w G0 H0 σ' env' G' H' B' → Sub G G' → D.ct σ' H'
  | .ret d B' => ∀ (v : V) (G' H' : Hp), Step w G0 H0 G' H' → Ok w G' H' B' → DR K G' v d → D.rt v H'
  | .exc c as env' B' => ∀ (σ' : L2.St) (cls : Value) (dd : Addr) (fs : List (Str × V)) (G' H' : Hp), mg c = some cls → Rel K w G0 H0 σ' env' G' H' B' → Sub G G' → H' dd = some (.xd fs) → Fs K G' fs as → W cls (some dd) σ' H'
  | .bad => False
theorem PostS.sub {K : Fg} {mg : Str → Option Value} {w : Wd} {G0 H0 G G1 : Hp} {W : WX} {D : Ends} {r : SRes} (e : Sub G G1) (h : PostS K mg w G0 H0 G W D r) : PostS K mg w G0 H0 G1 W D r := by
  cases r with
  | nx env B => exact fun σ' G' H' R q => h σ' G' H' R fun a o z => q a o (e a o z)
  | bk env B => exact fun σ' G' H' R q => h σ' G' H' R fun a o z => q a o (e a o z)
  | ct env B => exact fun σ' G' H' R q => h σ' G' H' R fun a o z => q a o (e a o z)
  | ret d B => exact h
  | exc c as env B => exact fun σ' cls dd fs G' H' m R q => h σ' cls dd fs G' H' m R fun a o z => q a o (e a o z)
  | bad => exact h
structure SD (X : Cx) (W : WX) (st : Stmt) (t : TS) (m : EnvM → Bag → SRes) : Prop where
  pe : PS X st t
  sem : ∀ (w : Wd) (G0 H0 : Hp) (σ : L2.St) (env : EnvM) (G H : Hp) (B : Bag) (D : Ends), Rel X.K w G0 H0 σ env G H B →
    PostS X.K X.mg w G0 H0 G W D (m env B) → t D σ H
structure SDs (X : Cx) (W : WX) (sts : List Stmt) (t : TS) (m : EnvM → Bag → SRes) : Prop where
  pe : PSs X sts t
  sem : ∀ (w : Wd) (G0 H0 : Hp) (σ : L2.St) (env : EnvM) (G H : Hp) (B : Bag) (D : Ends), Rel X.K w G0 H0 σ env G H B →
    PostS X.K X.mg w G0 H0 G W D (m env B) → t D σ H
end DL
set_option Elab.async false
set_option linter.all false
set_option maxRecDepth 100000
set_option maxHeartbeats 2000000
/-! DL1: expressions, tests, arguments. -/
namespace DL
open PySem L2
open ZT (PT)
section
variable {X : Cx} {W : WX}

/-! ### names and constants -/
def mVar (i : Nat) : EnvM → Bag → Res PD := fun env B => match env[i]? with
  | some (some (.d x)) => .ok x B
  | _ => .bad
def mC (d : PD) : EnvM → Bag → Res PD := fun _ B => .ok d B
theorem ed_var (i : Nat) {x : Str} {pos : Pos} (hN : X.N[i]? = some x := by rfl) (hv : Vis X.env.scope x := by first | exact Or.inl rfl | exact Or.inr (Or.inl rfl) | exact Or.inr (Or.inr rfl)) (hd : (x == ("__debug__" : Str)) = false := by decide)
    (hcd : (x == ("__classdict__" : Str)) = false := by decide) : ED X W (.Name x pos) (tVar i) (mVar i) := by
  refine ⟨pe_var hN hv hd hcd, fun w G0 H0 σ env G H B Q R h => ?_⟩
  unfold mVar at h
  cases e : env[i]? with
  | none => rw [e] at h; exact h.elim
  | some o =>
    cases o with
    | none => rw [e] at h; exact h.elim
    | some sv =>
      rw [e] at h
      cases sv with
      | d x =>
        obtain ⟨v, h1, h2⟩ := R.slot i _ e
        exact ⟨v, h1, h v G H Step.refl R.ok h2⟩
      | own xs => exact h.elim
      | ownD xs => exact h.elim
      | bag => exact h.elim
theorem ed_c {e : Expr} {v : V} {d : PD} (h : PE X e (tC v)) (r : ∀ G, DR X.K G v d) : ED X W e (tC v) (mC d) :=
  ⟨h, fun w G0 H0 σ env G H B Q R h => h v G H Step.refl R.ok (r G)⟩
theorem ed_int {i : Int} {j pos} : ED X W (.Constant (.int i) j pos) (tC (.int i)) (mC (.int i)) := ed_c pe_int fun _ => .int i
theorem ed_bl {b : Bool} {j pos} : ED X W (.Constant (.bool b) j pos) (tC (.bl b)) (mC (.bool b)) := ed_c pe_bl fun _ => .bl b
theorem ed_non {j pos} : ED X W (.Constant .none j pos) (tC .non) (mC .none) := ed_c pe_non fun _ => .non
theorem ed_str {x : Str} {j pos} : ED X W (.Constant (.str x) j pos) (tC (.str x)) (mC (.str x)) := ed_c pe_str fun _ => .str x
/-- a constant of the module -/
structure GC (K : Fg) (mg : Str → Option Value) (x : Str) (v : V) (d : PD) : Prop where
  ex : ∃ u : Value, mg x = some u ∧ RelV v u
  dr : ∀ G, DR K G v d
theorem ed_gl {x : Str} {v : V} {d : PD} {pos : Pos} (h : GC X.K X.mg x v d) (hg : Gl X x := by rfl) (hd : (x == ("__debug__" : Str)) = false := by decide) : ED X W (.Name x pos) (tC v) (mC d) := by
  obtain ⟨⟨u, h1, h2⟩, h3⟩ := h
  exact ed_c (pe_glob hg h1 h2 hd) h3

/-! ### operators of two values -/
def OpD (X : Cx) (r : R2) (g : PD → PD → Option PD) : Prop := ∀ (w : Wd) (G H : Hp) (B : Bag) (x y : V) (d e z : PD) (Q : VK), Ok w G H B → DR X.K G x d → DR X.K G y e → g d e = some z →
  (∀ (v : V) (G' H' : Hp), Step w G H G' H' → Ok w G' H' B → DR X.K G' v z → Q v H') → r x y H Q
def OpC (X : Cx) (r : R2) (g : PD → PD → Option Bool) : Prop := ∀ (w : Wd) (G H : Hp) (B : Bag) (x y : V) (d e : PD) (b : Bool) (Q : VK), Ok w G H B → DR X.K G x d → DR X.K G y e → g d e = some b → Q (.bl b) H → r x y H Q
def rOr (r1 r2 : R2) : R2 := fun x y H Q => r1 x y H Q ∨ r2 x y H Q
theorem opR_or {f : Value → Value → Sem Value} {r1 r2 : R2} (h1 : OpR X f r1) (h2 : OpR X f r2) : OpR X f (rOr r1 r2) := by
  intro pins s σ H x y v u Q I rx ry h
  rcases h with h | h
  · exact h1 pins s σ H x y v u Q I rx ry h
  · exact h2 pins s σ H x y v u Q I rx ry h
def gOr {α : Type} (g1 g2 : PD → PD → Option α) : PD → PD → Option α := fun d e => match g1 d e with
  | some z => some z
  | none => g2 d e
theorem opD_or {r1 r2 : R2} {g1 g2 : PD → PD → Option PD} (h1 : OpD X r1 g1) (h2 : OpD X r2 g2) : OpD X (rOr r1 r2) (gOr g1 g2) := by
  intro w G H B x y d e z Q o dx dy hz k
  unfold gOr at hz
  cases q : g1 d e with
  | some z' =>
    rw [q] at hz
    obtain rfl := Option.some.inj hz
    exact .inl (h1 w G H B x y d e _ Q o dx dy q k)
  | none =>
    rw [q] at hz
    exact .inr (h2 w G H B x y d e z Q o dx dy hz k)
theorem opC_or {r1 r2 : R2} {g1 g2 : PD → PD → Option Bool} (h1 : OpC X r1 g1) (h2 : OpC X r2 g2) : OpC X (rOr r1 r2) (gOr g1 g2) := by
  intro w G H B x y d e z Q o dx dy hz k
  unfold gOr at hz
  cases q : g1 d e with
  | some z' =>
    rw [q] at hz
    obtain rfl := Option.some.inj hz
    exact .inl (h1 w G H B x y d e _ Q o dx dy q k)
  | none =>
    rw [q] at hz
    exact .inr (h2 w G H B x y d e z Q o dx dy hz k)
def mOp (g : PD → PD → Option PD) (ma mb : EnvM → Bag → Res PD) : EnvM → Bag → Res PD := fun env B => (ma env B).bind fun x B1 => (mb env B1).bind fun y B2 => match g x y with
  | some z => .ok z B2
  | none => .bad
def mCmp (g : PD → PD → Option Bool) (ma mb : EnvM → Bag → Res PD) : EnvM → Bag → Res Bool := fun env B => (ma env B).bind fun x B1 => (mb env B1).bind fun y B2 => match g x y with
  | some z => .ok z B2
  | none => .bad
def mB (m : EnvM → Bag → Res Bool) : EnvM → Bag → Res PD := fun env B => (m env B).bind fun b B1 => .ok (.bool b) B1
/-- two values in a row -/
theorem two {a b : Expr} {ma mb : EnvM → Bag → Res PD} {ta tb : TE} {w : Wd} {G0 H0 : Hp} {σ : L2.St} {env : EnvM} {G H : Hp} {B : Bag}
    {γ δ : Type} {Rb : Hp → δ → γ → Prop} {f : PD → PD → Bag → Res γ} {Q : δ → Hp → Prop} {k : V → V → Hp → Prop}
    (ra : ∀ (w : Wd) (G0 H0 : Hp) (σ : L2.St) (env : EnvM) (G H : Hp) (B : Bag) (Q : VK), Rel X.K w G0 H0 σ env G H B → PostE X.K X.mg w G H (ma env B) Q (fun c d H' => W c d σ H') → ta σ H Q)
    (rb : ∀ (w : Wd) (G0 H0 : Hp) (σ : L2.St) (env : EnvM) (G H : Hp) (B : Bag) (Q : VK), Rel X.K w G0 H0 σ env G H B → PostE X.K X.mg w G H (mb env B) Q (fun c d H' => W c d σ H') → tb σ H Q)
    (R : Rel X.K w G0 H0 σ env G H B) (h : PostR X.K X.mg w G H Rb ((ma env B).bind fun x B1 => (mb env B1).bind fun y B2 => f x y B2) Q (fun c d H' => W c d σ H'))
    (hk : ∀ x y B2 vx vy G2 H2, Step w G H G2 H2 → Ok w G2 H2 B2 → DR X.K G2 vx x → DR X.K G2 vy y → PostR X.K X.mg w G2 H2 Rb (f x y B2) Q (fun c d H' => W c d σ H') → k vx vy H2) :
    ta σ H fun x H1 => tb σ H1 fun y H2 => k x y H2 := by
  refine ra w G0 H0 σ env G H B _ R (PostR.bind h fun x B1 vx G1 H1 s1 o1 d1 h1 => ?_)
  refine rb w G0 H0 σ env G1 H1 B1 _ (R.step s1 o1) (PostR.bind h1 fun y B2 vy G2 H2 s2 o2 d2 h2 => ?_)
  exact hk x y B2 vx vy G2 H2 (s1.trans s2) o2 (d1.mono s2.exG) d2 h2
theorem ed_op {ta tb : TE} {op : Operator} {r : R2} {g : PD → PD → Option PD} {a b : Expr} {ma mb : EnvM → Bag → Res PD} {pos : Pos} (ho : OpR X (binaryOp op) r) (hd : OpD X r g) (ha : ED X W a ta ma) (hb : ED X W b tb mb) : ED X W (.BinOp a op b pos) (tOp r ta tb) (mOp g ma mb) := by
  obtain ⟨pa, ra⟩ := ha
  obtain ⟨pb, rb⟩ := hb
  refine ⟨pe_op ho pa pb, fun w G0 H0 σ env G H B Q R h => ?_⟩
  refine two (a := a) (b := b) ra rb R h fun x y B2 vx vy G2 H2 s o dx dy h2 => ?_
  cases e : g x y with
  | none => rw [e] at h2; exact h2.elim
  | some z =>
    rw [e] at h2
    exact hd w G2 H2 B2 vx vy x y z Q o dx dy e h2
theorem td_cmp {ta tb : TE} {op : CmpOp} {r : R2} {g : PD → PD → Option Bool} {a b : Expr} {ma mb : EnvM → Bag → Res PD} {pos : Pos} (ho : OpR X (compareOp op) r) (hd : OpC X r g) (ha : ED X W a ta ma) (hb : ED X W b tb mb) (hm : behindInMarks op b = false := by first | exact nomark _ | with_unfolding_all rfl) : TD X W (.Compare a [op] [b] pos) (tTest (tOp r ta tb)) (mCmp g ma mb) := by
  obtain ⟨pa, ra⟩ := ha
  obtain ⟨pb, rb⟩ := hb
  refine ⟨pt_cmpR ho pa pb hm, fun w G0 H0 σ env G H B Q R h => ?_⟩
  refine two (a := a) (b := b) ra rb R h fun x y B2 vx vy G2 H2 s o dx dy h2 => ?_
  cases e : g x y with
  | none => rw [e] at h2; exact h2.elim
  | some z =>
    rw [e] at h2
    exact hd w G2 H2 B2 vx vy x y z _ o dx dy e ⟨z, rfl, h2 z G2 H2 Step.refl o rfl⟩
theorem ed_cmp {ta tb : TE} {op : CmpOp} {r : R2} {g : PD → PD → Option Bool} {a b : Expr} {ma mb : EnvM → Bag → Res PD} {pos : Pos} (ho : OpR X (compareOp op) r) (hd : OpC X r g) (ha : ED X W a ta ma) (hb : ED X W b tb mb) (hm : behindInMarks op b = false := by first | exact nomark _ | with_unfolding_all rfl) : ED X W (.Compare a [op] [b] pos) (tOp r ta tb) (mB (mCmp g ma mb)) := by
  obtain ⟨pa, ra⟩ := ha
  obtain ⟨pb, rb⟩ := hb
  refine ⟨pe_cmpR ho pa pb hm, fun w G0 H0 σ env G H B Q R h => ?_⟩
  have h : PostE X.K X.mg w G H ((ma env B).bind fun x B1 => (mb env B1).bind fun y B2 => match g x y with | some z => .ok (.bool z) B2 | none => .bad) Q (fun c d H' => W c d σ H') := by
    unfold mB mCmp at h
    cases e1 : ma env B with
    | ok x B1 =>
      rw [e1] at h
      simp only [Res.bind] at h ⊢
      cases e2 : mb env B1 with
      | ok y B2 =>
        rw [e2] at h
        simp only [Res.bind] at h ⊢
        cases e3 : g x y with
        | some z => rw [e3] at h; exact h
        | none => rw [e3] at h; exact h
      | exc c as B2 => rw [e2] at h; exact h
      | bad => rw [e2] at h; exact h
    | exc c as B1 => rw [e1] at h; exact h
    | bad => rw [e1] at h; exact h
  refine two (a := a) (b := b) ra rb R h fun x y B2 vx vy G2 H2 s o dx dy h2 => ?_
  cases e : g x y with
  | none => rw [e] at h2; exact h2.elim
  | some z =>
    rw [e] at h2
    exact hd w G2 H2 B2 vx vy x y z _ o dx dy e (h2 (.bl z) G2 H2 Step.refl o (.bl z))
/-- a op b op' c -/
def mChain (g g' : PD → PD → Option Bool) (ma mb mc : EnvM → Bag → Res PD) : EnvM → Bag → Res Bool := fun env B => (ma env B).bind fun x B1 => (mb env B1).bind fun y B2 => match g x y with
  | some true => (mc env B2).bind fun z B3 => match g' y z with
    | some k => .ok k B3
    | none => .bad
  | some false => .ok false B2
  | none => .bad
theorem td_chain {ta tb tc : TE} {op op' : CmpOp} {r r' : R2} {g g' : PD → PD → Option Bool} {a b c : Expr} {ma mb mc : EnvM → Bag → Res PD} {pos : Pos} (ho : OpR X (compareOp op) r) (hd : OpC X r g) (ho' : OpR X (compareOp op') r') (hd' : OpC X r' g')
    (ha : ED X W a ta ma) (hb : ED X W b tb mb) (hc : ED X W c tc mc) (hm : lastMarks [op, op'] [b, c] = false := by with_unfolding_all rfl) : TD X W (.Compare a [op, op'] [b, c] pos) (tTest (tChain r r' ta tb tc)) (mChain g g' ma mb mc) := by
  obtain ⟨pa, ra⟩ := ha
  obtain ⟨pb, rb⟩ := hb
  obtain ⟨pc, rc⟩ := hc
  refine ⟨pt_chain ho ho' pa pb pc hm, fun w G0 H0 σ env G H B Q R h => ?_⟩
  refine two (a := a) (b := b) ra rb R h fun x y B2 vx vy G2 H2 s o dx dy h2 => ?_
  cases e : g x y with
  | none => rw [e] at h2; exact h2.elim
  | some k =>
    rw [e] at h2
    refine hd w G2 H2 B2 vx vy x y k _ o dx dy e ⟨k, rfl, ?_⟩
    cases k with
    | false => exact iteF ⟨false, rfl, h2 false G2 H2 Step.refl o rfl⟩
    | true =>
      refine iteT (rc w G0 H0 σ env G2 H2 B2 _ (R.step s o) (PostR.bind h2 fun z B3 vz G3 H3 s3 o3 d3 h3 => ?_))
      cases e2 : g' y z with
      | none => rw [e2] at h3; exact h3.elim
      | some k' =>
        rw [e2] at h3
        exact hd' w G3 H3 B3 vy vz y z k' _ o3 (dy.mono s3.exG) d3 e2 ⟨k', rfl, h3 k' G3 H3 Step.refl o3 rfl⟩
theorem ed_chain {ta tb tc : TE} {op op' : CmpOp} {r r' : R2} {g g' : PD → PD → Option Bool} {a b c : Expr} {ma mb mc : EnvM → Bag → Res PD} {pos : Pos} (ho : OpR X (compareOp op) r) (hd : OpC X r g) (ho' : OpR X (compareOp op') r') (hd' : OpC X r' g')
    (ha : ED X W a ta ma) (hb : ED X W b tb mb) (hc : ED X W c tc mc) (hm : lastMarks [op, op'] [b, c] = false := by with_unfolding_all rfl) : ED X W (.Compare a [op, op'] [b, c] pos) (tChain r r' ta tb tc) (mB (mChain g g' ma mb mc)) := by
  obtain ⟨pa, ra⟩ := ha
  obtain ⟨pb, rb⟩ := hb
  obtain ⟨pc, rc⟩ := hc
  refine ⟨pe_chain ho ho' pa pb pc hm, fun w G0 H0 σ env G H B Q R h => ?_⟩
  have h : PostE X.K X.mg w G H ((ma env B).bind fun x B1 => (mb env B1).bind fun y B2 => (match g x y with
      | some true => (mc env B2).bind fun z B3 => match g' y z with
        | some k => .ok k B3
        | none => .bad
      | some false => .ok false B2
      | none => .bad : Res Bool).bind fun b B3 => .ok (.bool b) B3) Q (fun c d H' => W c d σ H') := by
    unfold mB mChain at h
    cases e1 : ma env B with
    | ok x B1 =>
      rw [e1] at h
      simp only [Res.bind] at h ⊢
      cases e2 : mb env B1 with
      | ok y B2 =>
        rw [e2] at h
        exact h
      | exc c as B2 => rw [e2] at h; exact h
      | bad => rw [e2] at h; exact h
    | exc c as B1 => rw [e1] at h; exact h
    | bad => rw [e1] at h; exact h
  refine two (a := a) (b := b) ra rb R h fun x y B2 vx vy G2 H2 s o dx dy h2 => ?_
  cases e : g x y with
  | none => rw [e] at h2; exact h2.elim
  | some k =>
    rw [e] at h2
    refine hd w G2 H2 B2 vx vy x y k _ o dx dy e ⟨k, rfl, ?_⟩
    cases k with
    | false => exact iteF (h2 (.bl false) G2 H2 Step.refl o (.bl false))
    | true =>
      have h2 : PostE X.K X.mg w G2 H2 ((mc env B2).bind fun z B3 => (match g' y z with | some k => .ok (.bool k) B3 | none => .bad)) Q (fun c d H' => W c d σ H') := by
        cases e3 : mc env B2 with
        | ok z B3 =>
          simp only [e3, Res.bind] at h2 ⊢
          cases e4 : g' y z with
          | some k => simp only [e4] at h2 ⊢; exact h2
          | none => simp only [e4] at h2 ⊢; exact h2
        | exc c as B3 => simp only [e3, Res.bind] at h2 ⊢; exact h2
        | bad => simp only [e3, Res.bind] at h2 ⊢; exact h2
      refine iteT (rc w G0 H0 σ env G2 H2 B2 _ (R.step s o) (PostR.bind h2 fun z B3 vz G3 H3 s3 o3 d3 h3 => ?_))
      cases e2 : g' y z with
      | none => rw [e2] at h3; exact h3.elim
      | some k' =>
        rw [e2] at h3
        exact hd' w G3 H3 B3 vy vz y z k' _ o3 (dy.mono s3.exG) d3 e2 (h3 (.bl k') G3 H3 Step.refl o3 (.bl k'))

/-! ### tests -/
def tTruth (K : Fg) (ta : TE) : TT := fun σ H Q => ta σ H fun x H' => ∃ k, TruV K x H' k ∧ Q k H'
def mTru (tr : PD → Option Bool) (m : EnvM → Bag → Res PD) : EnvM → Bag → Res Bool := fun env B => (m env B).bind fun x B1 => match tr x with
  | some b => .ok b B1
  | none => .bad
def truP : PD → Option Bool
  | .none => some false
  | .bool b => some b
  | .int i => some (i != 0)
  | .str x => if x.length ≤ sizeLine then some ((x.length : Int) != 0) else none
  | .list ds => some (!ds.isEmpty)
  | .tuple ds => some (!ds.isEmpty)
  | .dict ds => some (!ds.isEmpty)
theorem isEmpty_drs {K : Fg} {G : Hp} {vs : List V} {ds : List PD} (r : DRs K G vs ds) : (!ds.isEmpty) = !vs.isEmpty := by
  cases r <;> rfl
theorem truV_of {K : Fg} {G H : Hp} {v : V} {d : PD} {b : Bool} (hs : Sub G H) (h : DR K G v d) (e : truP d = some b) : TruV K v H b := by
  cases h with
  | non => cases e; rfl
  | bl b => cases e; rfl
  | int i => cases e; rfl
  | str x =>
    have e : (if x.length ≤ sizeLine then some ((x.length : Int) != 0) else none) = some b := e
    by_cases hx : x.length ≤ sizeLine
    · rw [if_pos hx] at e
      cases e
      exact ⟨hx, rfl⟩
    · rw [if_neg hx] at e; cases e
  | lst ha r =>
    cases e
    exact .inl ⟨_, SqL.of (hs _ _ ha), isEmpty_drs r⟩
  | tup ha r =>
    cases e
    exact .inr (.inl ⟨_, subT hs ha, isEmpty_drs r⟩)
  | dct ha r =>
    cases e
    refine .inr (.inr ⟨_, hs _ _ ha, ?_⟩)
    cases r <;> rfl
/-- any expression whose test is its value's truth -/
theorem td_tru {t : TE} {e : Expr} {m : EnvM → Bag → Res PD} (h : ED X W e t m) (he : ∀ whole, isTrue e X.env whole = (do let v ← whole; standAt e.pos; holding [v] (truthy v)) := by intro _; rfl) : TD X W e (tTruth X.K t) (mTru truP m) := by
  obtain ⟨p, r⟩ := h
  refine ⟨pt_truth p he, fun w G0 H0 σ env G H B Q R h => ?_⟩
  refine r w G0 H0 σ env G H B _ R (PostR.bind h fun x B1 v G1 H1 s1 o1 d1 h1 => ?_)
  cases e : truP x with
  | none => rw [e] at h1; exact h1.elim
  | some b =>
    rw [e] at h1
    exact ⟨b, truV_of o1.sub d1 e, h1 b G1 H1 Step.refl o1 rfl⟩
def mAnd (a b : EnvM → Bag → Res Bool) : EnvM → Bag → Res Bool := fun env B => (a env B).bind fun k B1 => if k = true then b env B1 else .ok false B1
def mOr (a b : EnvM → Bag → Res Bool) : EnvM → Bag → Res Bool := fun env B => (a env B).bind fun k B1 => if k = true then .ok true B1 else b env B1
def mNot (a : EnvM → Bag → Res Bool) : EnvM → Bag → Res Bool := fun env B => (a env B).bind fun k B1 => .ok (!k) B1
theorem td_not {t : TT} {a : Expr} {m : EnvM → Bag → Res Bool} {pos : Pos} (h : TD X W a t m) : TD X W (.UnaryOp .Not a pos) (tNot t) (mNot m) := by
  obtain ⟨p, r⟩ := h
  refine ⟨pt_not p, fun w G0 H0 σ env G H B Q R h => ?_⟩
  refine r w G0 H0 σ env G H B _ R (PostR.bind h fun x B1 v G1 H1 s1 o1 d1 h1 => ?_)
  subst d1
  exact h1 (!v) G1 H1 Step.refl o1 rfl
theorem wd_and1 {t : TT} {a : Expr} {m : EnvM → Bag → Res Bool} {pos : Pos} (h : TD X W a t m) : WD X W (.BoolOp .And [a] pos) t m := by
  obtain ⟨p, r⟩ := h
  exact ⟨pw_and1 p, r⟩
theorem wd_or1 {t : TT} {a : Expr} {m : EnvM → Bag → Res Bool} {pos : Pos} (h : TD X W a t m) : WD X W (.BoolOp .Or [a] pos) t m := by
  obtain ⟨p, r⟩ := h
  exact ⟨pw_or1 p, r⟩
theorem wd_and {t t2 : TT} {a b : Expr} {rest : List Expr} {ma mb : EnvM → Bag → Res Bool} {pos : Pos} (ha : TD X W a t ma) (hb : WD X W (.BoolOp .And (b :: rest) pos) t2 mb) : WD X W (.BoolOp .And (a :: b :: rest) pos) (tAnd t t2) (mAnd ma mb) := by
  obtain ⟨p, r⟩ := ha
  obtain ⟨p2, r2⟩ := hb
  refine ⟨pw_and p p2, fun w G0 H0 σ env G H B Q R h => ?_⟩
  refine r w G0 H0 σ env G H B _ R (PostR.bind h fun x B1 v G1 H1 s1 o1 d1 h1 => ?_)
  subst d1
  cases v with
  | true => exact iteT (r2 w G0 H0 σ env G1 H1 B1 Q (R.step s1 o1) h1)
  | false => exact iteF (h1 false G1 H1 Step.refl o1 rfl)
theorem wd_or {t t2 : TT} {a b : Expr} {rest : List Expr} {ma mb : EnvM → Bag → Res Bool} {pos : Pos} (ha : TD X W a t ma) (hb : WD X W (.BoolOp .Or (b :: rest) pos) t2 mb) : WD X W (.BoolOp .Or (a :: b :: rest) pos) (tOr t t2) (mOr ma mb) := by
  obtain ⟨p, r⟩ := ha
  obtain ⟨p2, r2⟩ := hb
  refine ⟨pw_or p p2, fun w G0 H0 σ env G H B Q R h => ?_⟩
  refine r w G0 H0 σ env G H B _ R (PostR.bind h fun x B1 v G1 H1 s1 o1 d1 h1 => ?_)
  subst d1
  cases v with
  | false => exact iteF (r2 w G0 H0 σ env G1 H1 B1 Q (R.step s1 o1) h1)
  | true => exact iteT (h1 true G1 H1 Step.refl o1 rfl)
theorem WD.td {t : TT} {e : Expr} {m : EnvM → Bag → Res Bool} (h : WD X W e t m) : TD X W e t m := by
  obtain ⟨p, r⟩ := h
  exact ⟨p.pt, r⟩
/-- and, or, not as values: all but the last are truths -/
def mAndV (a b : EnvM → Bag → Res PD) : EnvM → Bag → Res PD := fun env B => (a env B).bind fun x B1 => match x with
  | .bool true => b env B1
  | .bool false => .ok (.bool false) B1
  | _ => .bad
def mOrV (a b : EnvM → Bag → Res PD) : EnvM → Bag → Res PD := fun env B => (a env B).bind fun x B1 => match x with
  | .bool true => .ok (.bool true) B1
  | .bool false => b env B1
  | _ => .bad
def mNotV (a : EnvM → Bag → Res PD) : EnvM → Bag → Res PD := fun env B => (a env B).bind fun x B1 => match x with
  | .bool k => .ok (.bool (!k)) B1
  | _ => .bad
theorem ed_one {t : TE} {op} {a : Expr} {m : EnvM → Bag → Res PD} {pos : Pos} (h : ED X W a t m) : ED X W (.BoolOp op [a] pos) t m := by
  obtain ⟨p, r⟩ := h
  exact ⟨pe_one p, r⟩
theorem DR.bool_inv {K : Fg} {G : Hp} {v : V} {b : Bool} (h : DR K G v (.bool b)) : v = .bl b := by cases h; rfl
theorem DR.int_inv {K : Fg} {G : Hp} {v : V} {i : Int} (h : DR K G v (.int i)) : v = .int i := by cases h; rfl
theorem DR.str_inv {K : Fg} {G : Hp} {v : V} {x : Str} (h : DR K G v (.str x)) : v = .str x := by cases h; rfl
theorem ed_and {t t2 : TE} {a b : Expr} {rest : List Expr} {ma mb : EnvM → Bag → Res PD} {pos : Pos} (ha : ED X W a t ma) (hb : ED X W (.BoolOp .And (b :: rest) pos) t2 mb) : ED X W (.BoolOp .And (a :: b :: rest) pos) (tAndV t t2) (mAndV ma mb) := by
  obtain ⟨p, r⟩ := ha
  obtain ⟨p2, r2⟩ := hb
  refine ⟨pe_and p p2, fun w G0 H0 σ env G H B Q R h => ?_⟩
  refine r w G0 H0 σ env G H B _ R (PostR.bind h fun x B1 v G1 H1 s1 o1 d1 h1 => ?_)
  cases x with
  | bool k =>
    have e := d1.bool_inv
    refine ⟨k, e, ?_⟩
    cases k with
    | true => exact iteT (r2 w G0 H0 σ env G1 H1 B1 Q (R.step s1 o1) h1)
    | false => exact iteF (h1 (.bl false) G1 H1 Step.refl o1 (.bl false))
  | _ => exact (show False from h1).elim
theorem ed_or {t t2 : TE} {a b : Expr} {rest : List Expr} {ma mb : EnvM → Bag → Res PD} {pos : Pos} (ha : ED X W a t ma) (hb : ED X W (.BoolOp .Or (b :: rest) pos) t2 mb) : ED X W (.BoolOp .Or (a :: b :: rest) pos) (tOrV t t2) (mOrV ma mb) := by
  obtain ⟨p, r⟩ := ha
  obtain ⟨p2, r2⟩ := hb
  refine ⟨pe_or p p2, fun w G0 H0 σ env G H B Q R h => ?_⟩
  refine r w G0 H0 σ env G H B _ R (PostR.bind h fun x B1 v G1 H1 s1 o1 d1 h1 => ?_)
  cases x with
  | bool k =>
    have e := d1.bool_inv
    refine ⟨k, e, ?_⟩
    cases k with
    | false => exact iteF (r2 w G0 H0 σ env G1 H1 B1 Q (R.step s1 o1) h1)
    | true => exact iteT (h1 (.bl true) G1 H1 Step.refl o1 (.bl true))
  | _ => exact (show False from h1).elim
theorem ed_not {t : TE} {a : Expr} {m : EnvM → Bag → Res PD} {pos : Pos} (ha : ED X W a t m) : ED X W (.UnaryOp .Not a pos) (tNotV t) (mNotV m) := by
  obtain ⟨p, r⟩ := ha
  refine ⟨pe_not p, fun w G0 H0 σ env G H B Q R h => ?_⟩
  refine r w G0 H0 σ env G H B _ R (PostR.bind h fun x B1 v G1 H1 s1 o1 d1 h1 => ?_)
  cases x with
  | bool k => exact ⟨k, d1.bool_inv, h1 (.bl (!k)) G1 H1 Step.refl o1 (.bl (!k))⟩
  | _ => exact (show False from h1).elim
/-- a if t else b -/
def mIfE (c : EnvM → Bag → Res Bool) (a b : EnvM → Bag → Res PD) : EnvM → Bag → Res PD := fun env B => (c env B).bind fun k B1 => if k = true then a env B1 else b env B1
theorem ed_if {t : TT} {t1 t2 : TE} {c a b : Expr} {mc : EnvM → Bag → Res Bool} {ma mb : EnvM → Bag → Res PD} {pos : Pos} (hc : TD X W c t mc) (ha : ED X W a t1 ma) (hb : ED X W b t2 mb) : ED X W (.IfExp c a b pos) (tIf t t1 t2) (mIfE mc ma mb) := by
  obtain ⟨p, r⟩ := hc
  obtain ⟨p1, r1⟩ := ha
  obtain ⟨p2, r2⟩ := hb
  refine ⟨pe_ifExp p p1 p2, fun w G0 H0 σ env G H B Q R h => ?_⟩
  refine r w G0 H0 σ env G H B _ R (PostR.bind h fun x B1 v G1 H1 s1 o1 d1 h1 => ?_)
  subst d1
  cases v with
  | true => exact iteT (r1 w G0 H0 σ env G1 H1 B1 Q (R.step s1 o1) h1)
  | false => exact iteF (r2 w G0 H0 σ env G1 H1 B1 Q (R.step s1 o1) h1)

/-! ### arguments -/
def mG (m : EnvM → Bag → Res PD) : EnvM → Bag → Res SV := fun env B => (m env B).bind fun d B1 => .ok (.d d) B1
theorem gd {t : TE} {e : Expr} {m : EnvM → Bag → Res PD} (h : ED X W e t m) : GD X W e t (mG m) := by
  obtain ⟨p, r⟩ := h
  refine ⟨p, fun w G0 H0 σ env G H B Q R h => ?_⟩
  exact r w G0 H0 σ env G H B _ R (PostR.bind h fun x B1 v G1 H1 s1 o1 d1 h1 => h1 v G1 H1 Step.refl o1 d1)
/-- the bag's name -/
def mBag (i : Nat) : EnvM → Bag → Res SV := fun env B => match env[i]? with
  | some (some .bag) => .ok .bag B
  | _ => .bad
theorem gd_bag (i : Nat) {x : Str} {pos : Pos} (hN : X.N[i]? = some x := by rfl) (hv : Vis X.env.scope x := by first | exact Or.inl rfl | exact Or.inr (Or.inl rfl) | exact Or.inr (Or.inr rfl)) (hd : (x == ("__debug__" : Str)) = false := by decide)
    (hcd : (x == ("__classdict__" : Str)) = false := by decide) : GD X W (.Name x pos) (tVar i) (mBag i) := by
  refine ⟨pe_var hN hv hd hcd, fun w G0 H0 σ env G H B Q R h => ?_⟩
  unfold mBag at h
  cases e : env[i]? with
  | none => rw [e] at h; exact h.elim
  | some o =>
    cases o with
    | none => rw [e] at h; exact h.elim
    | some sv =>
      rw [e] at h
      cases sv with
      | d x => exact h.elim
      | own xs => exact h.elim
      | ownD xs => exact h.elim
      | bag =>
        obtain ⟨v, h1, h2⟩ := R.slot i _ e
        exact ⟨v, h1, h v G H Step.refl R.ok h2⟩
def mNil : EnvM → Bag → Res (List SV) := fun _ B => .ok [] B
def mCons (a : EnvM → Bag → Res SV) (r : EnvM → Bag → Res (List SV)) : EnvM → Bag → Res (List SV) := fun env B => (a env B).bind fun x B1 => (r env B1).bind fun xs B2 => .ok (x :: xs) B2
theorem ad_nil : AD X W [] tNil mNil := ⟨pa_nil, fun w G0 H0 σ env G H B Q R h => h [] G H Step.refl R.ok .nil⟩
theorem ad_cons {t : TE} {t2 : TA} {e : Expr} {es : List Expr} {m : EnvM → Bag → Res SV} {mr : EnvM → Bag → Res (List SV)} (he : GD X W e t m) (hr : AD X W es t2 mr) (hs : starEach (e :: es) X.env = (false, eval e X.env) :: starEach es X.env := by rfl) : AD X W (e :: es) (tCons t t2) (mCons m mr) := by
  obtain ⟨p, r⟩ := he
  obtain ⟨p2, r2⟩ := hr
  refine ⟨pa_cons p p2 hs, fun w G0 H0 σ env G H B Q R h => ?_⟩
  refine r w G0 H0 σ env G H B _ R (PostR.bind h fun x B1 v G1 H1 s1 o1 d1 h1 => ?_)
  refine r2 w G0 H0 σ env G1 H1 B1 _ (R.step s1 o1) (PostR.bind h1 fun xs B2 vs G2 H2 s2 o2 d2 h2 => ?_)
  exact h2 (v :: vs) G2 H2 Step.refl o2 (.cons (d1.mono s2.exG) d2)
/-- all of them data -/
def unD : List SV → Option (List PD)
  | [] => some []
  | .d x :: r => (unD r).map (x :: ·)
  | _ :: _ => none
theorem ARs.un {K : Fg} {w : Wd} {G : Hp} : ∀ {vs : List V} {ss : List SV} {ds : List PD}, ARs K w G vs ss → unD ss = some ds → DRs K G vs ds
  | _, _, _, .nil, e => by cases e; exact .nil
  | _, _, ds, .cons (s := .d x) (ss := ss) h r, e => by
    unfold unD at e
    cases q : unD ss with
    | none => rw [q] at e; cases e
    | some es =>
      rw [q] at e
      cases e
      exact .cons h (ARs.un r q)
  | _, _, _, .cons (s := .own xs) h r, e => by cases e
  | _, _, _, .cons (s := .bag) h r, e => by cases e

/-! ### displays -/
def mTup (m : EnvM → Bag → Res (List SV)) : EnvM → Bag → Res PD := fun env B => (m env B).bind fun ss B1 => match unD ss with
  | some ds => if ds.length ≤ sizeLine then .ok (.tuple ds) B1 else .bad
  | none => .bad
def mLst (m : EnvM → Bag → Res (List SV)) : EnvM → Bag → Res PD := fun env B => (m env B).bind fun ss B1 => match unD ss with
  | some ds => if ds.length ≤ sizeLine then .ok (.list ds) B1 else .bad
  | none => .bad
theorem ed_tup {t : TA} {es : List Expr} {m : EnvM → Bag → Res (List SV)} {x1} {pos : Pos} (h : AD X W es t m) : ED X W (.Tuple es x1 pos) (ZT.tTupP t) (mTup m) := by
  obtain ⟨p, r⟩ := h
  refine ⟨ZT.pe_tupP p, fun w G0 H0 σ env G H B Q R h => ?_⟩
  refine r w G0 H0 σ env G H B _ R (PostR.bind h fun ss B1 vs G1 H1 s1 o1 d1 h1 => ?_)
  cases e : unD ss with
  | none => rw [e] at h1; exact h1.elim
  | some ds =>
    rw [e] at h1
    have q := d1.un e
    by_cases hl : ds.length ≤ sizeLine
    · simp only [if_pos hl] at h1
      refine ⟨by rw [q.length]; exact hl, fun a ob ha hd => h1 (.ref a) _ _ (Step.new o1.sub ha) (o1.new ha) ?_⟩
      exact .tup (PT.new hd) (q.mono (new_sub o1.sub ha))
    · simp only [if_neg hl] at h1
      exact h1.elim
theorem ed_lst {t : TA} {es : List Expr} {m : EnvM → Bag → Res (List SV)} {pos : Pos} (h : AD X W es t m) : ED X W (.List es pos) (tLst t) (mLst m) := by
  obtain ⟨p, r⟩ := h
  refine ⟨pe_lst p, fun w G0 H0 σ env G H B Q R h => ?_⟩
  refine r w G0 H0 σ env G H B _ R (PostR.bind h fun ss B1 vs G1 H1 s1 o1 d1 h1 => ?_)
  cases e : unD ss with
  | none => rw [e] at h1; exact h1.elim
  | some ds =>
    rw [e] at h1
    have q := d1.un e
    by_cases hl : ds.length ≤ sizeLine
    · simp only [if_pos hl] at h1
      refine ⟨by rw [q.length]; exact hl, fun a ha => h1 (.ref a) _ _ (Step.new o1.sub ha) (o1.new ha) ?_⟩
      exact .lst upd_same (q.mono (new_sub o1.sub ha))
    · simp only [if_neg hl] at h1
      exact h1.elim
end
end DL
set_option Elab.async false
set_option linter.all false
set_option maxRecDepth 100000
set_option maxHeartbeats 2000000
/-! DL2: operators, subscripts, slices, built-in calls over data. -/
namespace DL
open PySem L2
open ZT (PT)
section
variable {X : Cx} {W : WX}
theorem subL {K : Fg} {G H : Hp} {a : Addr} {xs : List V} (hs : Sub G H) (h : G a = some (.lst xs)) : SqL K H a xs := SqL.of (hs _ _ h)
/-! ### a + b -/
def addP : PD → PD → Option PD
  | .int i, .int j => some (.int (i + j))
  | .str x, .str y => if x.length + y.length ≤ sizeLine then some (.str (x ++ y)) else none
  | .list xs, .list ys => if xs.length + ys.length ≤ sizeLine then some (.list (xs ++ ys)) else none
  | .tuple xs, .tuple ys => if xs.length + ys.length ≤ sizeLine then some (.tuple (xs ++ ys)) else none
  | _, _ => none
def rAddU (K : Fg) : R2 := rOr (rI0 fun i j => .int (i + j)) (rOr (fun x y H Q => ∃ i j, x = .str i ∧ y = .str j ∧ i.length + j.length ≤ sizeLine ∧ Q (.str (i ++ j)) H) (rOr rCat (ZT.rCatP K)))
theorem op_addU : OpR X (binaryOp .Add) (rAddU X.K) := opR_or op_add (opR_or op_add_str (opR_or op_cat ZT.op_catP))
theorem some_if {α : Type} {c : Prop} [Decidable c] {a b : α} (h : (if c then some a else none) = some b) : c ∧ a = b := by
  by_cases q : c
  · rw [if_pos q] at h
    exact ⟨q, Option.some.inj h⟩
  · rw [if_neg q] at h; cases h
theorem opD_add : OpD X (rAddU X.K) addP := by
  intro w G H B x y d e z Q o dx dy hz k
  unfold addP at hz
  split at hz
  · cases dx; cases dy; cases hz
    exact .inl ⟨_, _, rfl, rfl, k _ G H Step.refl o (.int _)⟩
  · cases dx; cases dy
    obtain ⟨hl, rfl⟩ := some_if hz
    exact .inr (.inl ⟨_, _, rfl, rfl, hl, k _ G H Step.refl o (.str _)⟩)
  · obtain ⟨hl, rfl⟩ := some_if hz
    cases dx with
    | lst h1 r1 =>
      cases dy with
      | lst h2 r2 =>
        refine .inr (.inr (.inl ⟨_, _, _, _, rfl, rfl, o.sub _ _ h1, o.sub _ _ h2, by rw [r1.length, r2.length]; exact hl, fun p hp => ?_⟩))
        exact k _ _ _ (Step.new o.sub hp) (o.new hp) (.lst upd_same ((r1.append r2).mono (new_sub o.sub hp)))
  · obtain ⟨hl, rfl⟩ := some_if hz
    cases dx with
    | tup h1 r1 =>
      cases dy with
      | tup h2 r2 =>
        refine .inr (.inr (.inr ⟨_, _, _, _, rfl, rfl, subT o.sub h1, subT o.sub h2, by rw [r1.length, r2.length]; exact hl, fun e => ?_, fun e1 e2 => ?_, fun e1 e2 p ob hp hd => ?_⟩))
        · subst e
          cases r1
          exact k _ G H Step.refl o (.tup h2 r2)
        · subst e2
          cases r2
          rw [List.append_nil] at k
          exact k _ G H Step.refl o (.tup h1 r1)
        · exact k _ _ _ (Step.new o.sub hp) (o.new hp) (.tup (PT.new hd) ((r1.append r2).mono (new_sub o.sub hp)))
  · cases hz
/-! ### ints -/
def int2 (f : Int → Int → Option PD) : PD → PD → Option PD
  | .int i, .int j => f i j
  | _, _ => none
theorem int2_inv {f : Int → Int → Option PD} {d e z : PD} (h : int2 f d e = some z) : ∃ i j, d = .int i ∧ e = .int j ∧ f i j = some z := by
  unfold int2 at h
  split at h
  · exact ⟨_, _, rfl, rfl, h⟩
  · cases h
def subP : PD → PD → Option PD := int2 fun i j => some (.int (i - j))
def fdivP : PD → PD → Option PD := int2 fun i j => if j ≠ 0 ∧ j.natAbs < 1073741824 then some (.int (i.fdiv j)) else none
def modP : PD → PD → Option PD := int2 fun i j => if j ≠ 0 then some (.int (i.fmod j)) else none
def powP : PD → PD → Option PD := int2 fun i j => if 0 ≤ j ∧ j ≤ 1000000 ∧ i.natAbs < 2 ^ 64 then some (.int (i ^ j.toNat)) else none
theorem opD_sub : OpD X (rI0 fun i j => .int (i - j)) subP := by
  intro w G H B x y d e z Q o dx dy hz k
  obtain ⟨i, j, rfl, rfl, h⟩ := int2_inv hz
  cases dx; cases dy; cases h
  exact ⟨_, _, rfl, rfl, k _ G H Step.refl o (.int _)⟩
theorem opD_fdiv : OpD X (rI CDivN fun i j => .int (i.fdiv j)) fdivP := by
  intro w G H B x y d e z Q o dx dy hz k
  obtain ⟨i, j, rfl, rfl, h⟩ := int2_inv hz
  obtain ⟨hc, rfl⟩ := some_if h
  cases dx; cases dy
  exact ⟨_, _, rfl, rfl, hc, k _ G H Step.refl o (.int _)⟩
theorem opD_mod : OpD X (rI (fun _ j => j ≠ 0) fun i j => .int (i.fmod j)) modP := by
  intro w G H B x y d e z Q o dx dy hz k
  obtain ⟨i, j, rfl, rfl, h⟩ := int2_inv hz
  obtain ⟨hc, rfl⟩ := some_if h
  cases dx; cases dy
  exact ⟨_, _, rfl, rfl, hc, k _ G H Step.refl o (.int _)⟩
theorem opD_pow : OpD X (rI CPow fun i j => .int (i ^ j.toNat)) powP := by
  intro w G H B x y d e z Q o dx dy hz k
  obtain ⟨i, j, rfl, rfl, h⟩ := int2_inv hz
  obtain ⟨hc, rfl⟩ := some_if h
  cases dx; cases dy
  exact ⟨_, _, rfl, rfl, hc, k _ G H Step.refl o (.int _)⟩
/-! ### a * b -/
def mulP : PD → PD → Option PD
  | .int i, .int j => if (-(2 ^ 64) < i ∧ i < 2 ^ 64) ∨ (-(2 ^ 64) < j ∧ j < 2 ^ 64) then some (.int (i * j)) else none
  | .list xs, .int j => if -(2 ^ 63) ≤ j ∧ j < 2 ^ 63 ∧ xs.length * j.toNat ≤ sizeLine then some (.list (List.replicate j.toNat xs).flatten) else none
  | _, _ => none
theorem DRs.rep {K : Fg} {G : Hp} {vs : List V} {ds : List PD} (r : DRs K G vs ds) : ∀ n : Nat, DRs K G (List.replicate n vs).flatten (List.replicate n ds).flatten
  | 0 => .nil
  | n + 1 => by
    rw [List.replicate_succ, List.replicate_succ, List.flatten_cons, List.flatten_cons]
    exact r.append (DRs.rep r n)
theorem opD_mul : OpD X (rOr (rI CMul fun i j => .int (i * j)) rRep) mulP := by
  intro w G H B x y d e z Q o dx dy hz k
  unfold mulP at hz
  split at hz
  · obtain ⟨hc, rfl⟩ := some_if hz
    cases dx; cases dy
    exact .inl ⟨_, _, rfl, rfl, hc, k _ G H Step.refl o (.int _)⟩
  · obtain ⟨⟨h1, h2, h3⟩, rfl⟩ := some_if hz
    cases dy
    cases dx with
    | lst hx rx =>
      refine .inr ⟨_, _, _, rfl, rfl, o.sub _ _ hx, h1, h2, by rw [rx.length]; exact h3, fun p hp => ?_⟩
      exact k _ _ _ (Step.new o.sub hp) (o.new hp) (.lst upd_same ((rx.rep _).mono (new_sub o.sub hp)))
  · cases hz
theorem op_mulU : OpR X (binaryOp .Mult) (rOr (rI CMul fun i j => .int (i * j)) rRep) := opR_or op_mul op_rep
theorem ed_add {a b : Expr} {ta tb : TE} {ma mb : EnvM → Bag → Res PD} {pos : Pos} (ha : ED X W a ta ma) (hb : ED X W b tb mb) : ED X W (.BinOp a .Add b pos) (tOp (rAddU X.K) ta tb) (mOp addP ma mb) := ed_op op_addU opD_add ha hb
theorem ed_sub {a b : Expr} {ta tb : TE} {ma mb : EnvM → Bag → Res PD} {pos : Pos} (ha : ED X W a ta ma) (hb : ED X W b tb mb) : ED X W (.BinOp a .Sub b pos) (tOp (rI0 fun i j => .int (i - j)) ta tb) (mOp subP ma mb) := ed_op op_sub opD_sub ha hb
theorem ed_mul {a b : Expr} {ta tb : TE} {ma mb : EnvM → Bag → Res PD} {pos : Pos} (ha : ED X W a ta ma) (hb : ED X W b tb mb) : ED X W (.BinOp a .Mult b pos) (tOp (rOr (rI CMul fun i j => .int (i * j)) rRep) ta tb) (mOp mulP ma mb) := ed_op op_mulU opD_mul ha hb
theorem ed_fdiv {a b : Expr} {ta tb : TE} {ma mb : EnvM → Bag → Res PD} {pos : Pos} (ha : ED X W a ta ma) (hb : ED X W b tb mb) : ED X W (.BinOp a .FloorDiv b pos) (tOp (rI CDivN fun i j => .int (i.fdiv j)) ta tb) (mOp fdivP ma mb) := ed_op op_fdivN opD_fdiv ha hb
theorem ed_mod {a b : Expr} {ta tb : TE} {ma mb : EnvM → Bag → Res PD} {pos : Pos} (ha : ED X W a ta ma) (hb : ED X W b tb mb) : ED X W (.BinOp a .Mod b pos) (tOp (rI (fun _ j => j ≠ 0) fun i j => .int (i.fmod j)) ta tb) (mOp modP ma mb) := ed_op op_modN opD_mod ha hb
theorem ed_pow {a b : Expr} {ta tb : TE} {ma mb : EnvM → Bag → Res PD} {pos : Pos} (ha : ED X W a ta ma) (hb : ED X W b tb mb) : ED X W (.BinOp a .Pow b pos) (tOp (rI CPow fun i j => .int (i ^ j.toNat)) ta tb) (mOp powP ma mb) := ed_op op_pow opD_pow ha hb
/-- -a -/
def mNeg (m : EnvM → Bag → Res PD) : EnvM → Bag → Res PD := fun env B => (m env B).bind fun x B1 => match x with
  | .int i => .ok (.int (-i)) B1
  | _ => .bad
theorem ed_neg {a : Expr} {t : TE} {m : EnvM → Bag → Res PD} {pos : Pos} (h : ED X W a t m) : ED X W (.UnaryOp .USub a pos) (tUn (rU fun i => .int (-i)) t) (mNeg m) := by
  obtain ⟨p, r⟩ := h
  refine ⟨pe_un un_neg p, fun w G0 H0 σ env G H B Q R h => ?_⟩
  refine r w G0 H0 σ env G H B _ R (PostR.bind h fun x B1 v G1 H1 s1 o1 d1 h1 => ?_)
  cases x with
  | int i => exact ⟨i, d1.int_inv, h1 (.int (-i)) G1 H1 Step.refl o1 (.int (-i))⟩
  | _ => exact (show False from h1).elim

/-! ### comparisons -/
def cmpI (f : Int → Int → Bool) : PD → PD → Option Bool
  | .int i, .int j => some (f i j)
  | _, _ => none
theorem opC_int {f : Int → Int → Bool} : OpC X (rI0 fun i j => .bl (f i j)) (cmpI f) := by
  intro w G H B x y d e b Q o dx dy hz k
  unfold cmpI at hz
  split at hz
  · cases dx; cases dy; cases hz
    exact ⟨_, _, rfl, rfl, k⟩
  · cases hz
abbrev ltP := cmpI fun i j => decide (i < j)
abbrev leP := cmpI fun i j => decide (i ≤ j)
abbrev gtP := cmpI fun i j => decide (j < i)
abbrev geP := cmpI fun i j => decide (j ≤ i)
def eqP (d e : PD) : Option Bool := if SeqAt.shaped d = true ∧ SeqAt.shaped e = true then some (PyData.eqv d e) else none
def neP (d e : PD) : Option Bool := if SeqAt.shaped d = true ∧ SeqAt.shaped e = true then some (!PyData.eqv d e) else none
theorem opC_eq : OpC X (rEqD X.K) eqP := by
  intro w G H B x y d e b Q o dx dy hz k
  obtain ⟨⟨h1, h2⟩, rfl⟩ := some_if hz
  exact ⟨d, e, (dx.mono o.sub).dp (SeqAt.canLay_of_shaped h1), (dy.mono o.sub).dp (SeqAt.canLay_of_shaped h2), h1, h2, k⟩
theorem opC_ne : OpC X (rNeD X.K) neP := by
  intro w G H B x y d e b Q o dx dy hz k
  obtain ⟨⟨h1, h2⟩, rfl⟩ := some_if hz
  exact ⟨d, e, (dx.mono o.sub).dp (SeqAt.canLay_of_shaped h1), (dy.mono o.sub).dp (SeqAt.canLay_of_shaped h2), h1, h2, k⟩
/-! ### in -/
def flatP : PD → Bool
  | .none => true
  | .bool _ => true
  | .int _ => true
  | .str _ => true
  | _ => false
def inP : PD → PD → Option Bool
  | .str x, .str z => if x.cps.size = 1 then some (decide (x.cps.getD 0 0 ∈ z.cps.toList)) else none
  | d, .list es => if flatP d = true ∧ es.all flatP = true then some (es.any fun e => PyData.eqv e d) else none
  | d, .tuple es => if flatP d = true ∧ es.all flatP = true then some (es.any fun e => PyData.eqv e d) else none
  | _, _ => none
def ninP (d e : PD) : Option Bool := (inP d e).map (!·)
theorem flat_of {K : Fg} {G : Hp} {v : V} {d : PD} (h : DR K G v d) (f : flatP d = true) : flatV v = true := by
  cases h <;> first | rfl | exact absurd f Bool.false_ne_true
theorem flats_of {K : Fg} {G : Hp} : ∀ {vs : List V} {ds : List PD}, DRs K G vs ds → ds.all flatP = true → vs.all flatV = true
  | _, _, .nil, _ => rfl
  | _, _, .cons h r, f => by
    rw [List.all_cons, Bool.and_eq_true] at f ⊢
    exact ⟨flat_of h f.1, flats_of r f.2⟩
theorem eqV_of {K : Fg} {G : Hp} {v u : V} {d e : PD} (h : DR K G v d) (h2 : DR K G u e) (f : flatP d = true) (f2 : flatP e = true) : eqV v u = PyData.eqv d e := by
  (cases h <;> cases h2) <;> first | rfl | exact absurd f Bool.false_ne_true | exact absurd f2 Bool.false_ne_true
theorem any_of {K : Fg} {G : Hp} {u : V} {d : PD} (h2 : DR K G u d) (f2 : flatP d = true) : ∀ {vs : List V} {ds : List PD}, DRs K G vs ds → ds.all flatP = true → inV u vs = ds.any fun e => PyData.eqv e d
  | _, _, .nil, _ => rfl
  | _, _, .cons h r, f => by
    rw [List.all_cons, Bool.and_eq_true] at f
    have ih := any_of h2 f2 r f.2
    unfold inV at ih ⊢
    rw [List.any_cons, List.any_cons, eqV_of h h2 f.1 f2, ih]
def rInS (neg : Bool) : R2 := fun x y H Q => ∃ (c : Nat) (z : Str), x = .str ⟨#[c]⟩ ∧ y = .str z ∧ Q (.bl (if neg = true then !decide (c ∈ z.cps.toList) else decide (c ∈ z.cps.toList))) H
theorem op_inU : OpR X (compareOp .In) (rOr (rIn X.K false) (rInS false)) := opR_or op_in_seq op_in_sign
theorem op_ninU : OpR X (compareOp .NotIn) (rOr (rIn X.K true) (rInS true)) := opR_or op_notIn_seq op_notIn_sign
theorem str_one {x : Str} (h : x.cps.size = 1) : x = ⟨#[x.cps.getD 0 0]⟩ := by
  obtain ⟨⟨l⟩⟩ := x
  match l, h with
  | [c], _ => rfl
theorem in_both {neg : Bool} {w : Wd} {G H : Hp} {B : Bag} {x y : V} {d e : PD} {b : Bool} {Q : VK} (o : Ok w G H B) (dx : DR X.K G x d) (dy : DR X.K G y e) (hz : inP d e = some b) (k : Q (.bl (if neg = true then !b else b)) H) : rOr (rIn X.K neg) (rInS neg) x y H Q := by
  unfold inP at hz
  split at hz
  · obtain ⟨h1, rfl⟩ := some_if hz
    cases dx; cases dy
    rename_i x z
    exact .inr ⟨x.cps.getD 0 0, z, by rw [← str_one h1], rfl, k⟩
  · obtain ⟨⟨f1, f2⟩, rfl⟩ := some_if hz
    cases dy with
    | lst hy r =>
      refine .inl ⟨_, _, rfl, .inl (subL o.sub hy), flat_of dx f1, flats_of r f2, ?_⟩
      rw [any_of dx f1 r f2]
      exact k
  · obtain ⟨⟨f1, f2⟩, rfl⟩ := some_if hz
    cases dy with
    | tup hy r =>
      refine .inl ⟨_, _, rfl, .inr (subT o.sub hy), flat_of dx f1, flats_of r f2, ?_⟩
      rw [any_of dx f1 r f2]
      exact k
  · cases hz
theorem opC_in : OpC X (rOr (rIn X.K false) (rInS false)) inP := fun w G H B x y d e b Q o dx dy hz k => in_both o dx dy hz k
theorem opC_nin : OpC X (rOr (rIn X.K true) (rInS true)) ninP := by
  intro w G H B x y d e b Q o dx dy hz k
  unfold ninP at hz
  cases q : inP d e with
  | none => rw [q] at hz; cases hz
  | some c =>
    rw [q] at hz
    have hz : some (!c) = some b := hz
    cases hz
    exact in_both (neg := true) o dx dy q k
/-! ### is None -/
def isNo : PD → Bool
  | .none => true
  | _ => false
def isNoneP : PD → PD → Option Bool
  | d, .none => some (isNo d)
  | _, _ => none
def notNoneP (d e : PD) : Option Bool := (isNoneP d e).map (!·)
theorem none_of {K : Fg} {G : Hp} {v : V} {d : PD} (h : DR K G v d) : decide (v = .non) = isNo d := by
  cases h <;> rfl
theorem opC_is : OpC X (fun x y H Q => y = .non ∧ Q (.bl (decide (x = .non))) H) isNoneP := by
  intro w G H B x y d e b Q o dx dy hz k
  cases e with
  | none =>
    cases dy
    cases hz
    exact ⟨rfl, by rw [none_of dx]; exact k⟩
  | _ => cases hz
theorem opC_isnot : OpC X (fun x y H Q => y = .non ∧ Q (.bl (!decide (x = .non))) H) notNoneP := by
  intro w G H B x y d e b Q o dx dy hz k
  cases e with
  | none =>
    cases dy
    cases hz
    exact ⟨rfl, by rw [none_of dx]; exact k⟩
  | _ => cases hz

/-! ### subscripts, slices -/
def ixP : PD → PD → Option PD
  | .list xs, .int i => atI xs i
  | .tuple xs, .int i => atI xs i
  | .str z, .int i => if z.length ≤ sizeLine then (atI z.cps.toList i).map fun c => .str ⟨#[c]⟩ else none
  | _, _ => none
theorem atI_of {K : Fg} {G : Hp} {vs : List V} {ds : List PD} {i : Int} {d : PD} (r : DRs K G vs ds) (h : atI ds i = some d) : ∃ v, atI vs i = some v ∧ DR K G v d := by
  unfold atI at h ⊢
  rw [r.length]
  cases e : ixN ds.length i with
  | none => rw [e] at h; cases h
  | some j =>
    rw [e] at h
    obtain ⟨v, h1, h2⟩ := r.get (show ds[j]? = some d from h)
    exact ⟨v, h1, h2⟩
theorem opD_ix : OpD X (rIx X.K) ixP := by
  intro w G H B x y d e z Q o dx dy hz k
  unfold ixP at hz
  split at hz
  · cases dy
    cases dx with
    | lst hx r =>
      obtain ⟨v, h1, h2⟩ := atI_of r hz
      exact .inl ⟨_, _, _, v, rfl, rfl, subL o.sub hx, h1, k v G H Step.refl o h2⟩
  · cases dy
    cases dx with
    | tup hx r =>
      obtain ⟨v, h1, h2⟩ := atI_of r hz
      exact .inr (.inl ⟨_, _, _, v, rfl, rfl, subT o.sub hx, h1, k v G H Step.refl o h2⟩)
  · cases dy; cases dx
    rename_i z i
    by_cases hl : z.length ≤ sizeLine
    · rw [if_pos hl] at hz
      cases q : atI z.cps.toList i with
      | none => rw [q] at hz; cases hz
      | some c =>
        rw [q] at hz
        cases hz
        exact .inr (.inr ⟨z, i, c, rfl, rfl, hl, q, k _ G H Step.refl o (.str _)⟩)
    · rw [if_neg hl] at hz; cases hz
  · cases hz
theorem ed_ix {a b : Expr} {ta tb : TE} {ma mb : EnvM → Bag → Res PD} {pos : Pos} (ha : ED X W a ta ma) (hb : ED X W b tb mb) (hs : PlainIx b := by exact fun _ _ => rfl) : ED X W (.Subscript a b pos) (tOp (rIx X.K) ta tb) (mOp ixP ma mb) := by
  obtain ⟨pa, ra⟩ := ha
  obtain ⟨pb, rb⟩ := hb
  refine ⟨pe_ix ix_seq pa pb hs, fun w G0 H0 σ env G H B Q R h => ?_⟩
  refine two (a := a) (b := b) ra rb R h fun x y B2 vx vy G2 H2 s o dx dy h2 => ?_
  cases e : ixP x y with
  | none => rw [e] at h2; exact h2.elim
  | some z =>
    rw [e] at h2
    exact opD_ix w G2 H2 B2 vx vy x y z Q o dx dy e h2
/-- a part of a slice -/
structure OD (X : Cx) (W : WX) (e : Option Expr) (t : TO) (m : EnvM → Bag → Res (Option Int)) : Prop where
  pe : PO X e t
  sem : ∀ (w : Wd) (G0 H0 : Hp) (σ : L2.St) (env : EnvM) (G H : Hp) (B : Bag) (Q : Option Int → Hp → Prop), Rel X.K w G0 H0 σ env G H B →
    PostR X.K X.mg w G H (fun _ i j => i = j) (m env B) Q (fun c d H' => W c d σ H') → t σ H Q
def mNoPart : EnvM → Bag → Res (Option Int) := fun _ B => .ok none B
def mPart (m : EnvM → Bag → Res PD) : EnvM → Bag → Res (Option Int) := fun env B => (m env B).bind fun x B1 => match x with
  | .int i => .ok (some i) B1
  | _ => .bad
theorem od_none : OD X W none tNoPart mNoPart := ⟨po_none, fun w G0 H0 σ env G H B Q R h => h none G H Step.refl R.ok rfl⟩
theorem od_some {e : Expr} {t : TE} {m : EnvM → Bag → Res PD} (h : ED X W e t m) : OD X W (some e) (tPart t) (mPart m) := by
  obtain ⟨p, r⟩ := h
  refine ⟨po_some p, fun w G0 H0 σ env G H B Q R h => ?_⟩
  refine r w G0 H0 σ env G H B _ R (PostR.bind h fun x B1 v G1 H1 s1 o1 d1 h1 => ?_)
  cases x with
  | int i => exact ⟨i, d1.int_inv, h1 (some i) G1 H1 Step.refl o1 rfl⟩
  | _ => exact (show False from h1).elim
def cutP {α : Type} (xs : List α) (lo hi : Option Int) : List α := (xs.drop (HT.sIx xs.length 0 lo)).take (HT.sIx xs.length xs.length hi - HT.sIx xs.length 0 lo)
def sliceP (d : PD) (lo hi : Option Int) : Option PD := match d with
  | .list xs => some (.list (cutP xs lo hi))
  | .tuple xs => some (.tuple (cutP xs lo hi))
  | .str z => if z.length ≤ sizeLine then some (.str (cutS z lo hi)) else none
  | _ => none
theorem DRs.cut {K : Fg} {G : Hp} {vs : List V} {ds : List PD} (lo hi : Option Int) (r : DRs K G vs ds) : DRs K G (cutV vs lo hi) (cutP ds lo hi) := by
  unfold cutV cutP
  rw [r.length]
  exact (r.drop _).take _
def rSlU (K : Fg) : V → Option Int → Option Int → Hp → VK → Prop := fun x lo hi H Q => rSlL K x lo hi H Q ∨ (fun x lo hi H Q => ZT.rSlP K x lo hi H Q ∨ rSlS x lo hi H Q) x lo hi H Q
theorem sl_U : SlR X (rSlU X.K) := sl_list.or (ZT.sl_tupP.or sl_str)
def mSl (ma : EnvM → Bag → Res PD) (ml mh : EnvM → Bag → Res (Option Int)) : EnvM → Bag → Res PD := fun env B => (ma env B).bind fun x B1 => (ml env B1).bind fun lo B2 => (mh env B2).bind fun hi B3 => match sliceP x lo hi with
  | some z => .ok z B3
  | none => .bad
theorem ed_slice {e : Expr} {lo hi : Option Expr} {t : TE} {tl th : TO} {m : EnvM → Bag → Res PD} {ml mh : EnvM → Bag → Res (Option Int)} {pos p2 : Pos} (he : ED X W e t m) (hl : OD X W lo tl ml) (hh : OD X W hi th mh) :
    ED X W (.Subscript e (.Slice lo hi none p2) pos) (tSl (rSlU X.K) t tl th) (mSl m ml mh) := by
  obtain ⟨p, r⟩ := he
  obtain ⟨pl, rl⟩ := hl
  obtain ⟨ph, rh⟩ := hh
  refine ⟨pe_slice sl_U p pl ph, fun w G0 H0 σ env G H B Q R h => ?_⟩
  refine r w G0 H0 σ env G H B _ R (PostR.bind h fun x B1 v G1 H1 s1 o1 d1 h1 => ?_)
  refine rl w G0 H0 σ env G1 H1 B1 _ (R.step s1 o1) (PostR.bind h1 fun l B2 l' G2 H2 s2 o2 e2 h2 => ?_)
  subst e2
  refine rh w G0 H0 σ env G2 H2 B2 _ ((R.step s1 o1).step s2 o2) (PostR.bind h2 fun u B3 u' G3 H3 s3 o3 e3 h3 => ?_)
  subst e3
  have d3 := (d1.mono s2.exG).mono s3.exG
  unfold sliceP at h3
  cases x with
  | list xs =>
    cases d3 with
    | lst hx rx => exact .inl ⟨_, _, rfl, subL o3.sub hx, fun p hp => h3 _ _ _ (Step.new o3.sub hp) (o3.new hp) (.lst upd_same ((rx.cut l' u').mono (new_sub o3.sub hp)))⟩
  | tuple xs =>
    cases d3 with
    | tup hx rx =>
      rename_i a vs
      refine .inr (.inl ⟨_, _, rfl, subT o3.sub hx, fun hw => ?_, fun hw p ob hp hd => h3 _ _ _ (Step.new o3.sub hp) (o3.new hp) (.tup (PT.new hd) ((rx.cut l' u').mono (new_sub o3.sub hp)))⟩)
      refine h3 _ _ _ Step.refl o3 (.tup hx ?_)
      have q := rx.cut l' u'
      unfold cutV at q
      rw [hw.1, hw.2, List.drop_zero, Nat.sub_zero, List.take_length] at q
      exact q
  | str z =>
    have e := d3.str_inv
    subst e
    by_cases hl : z.length ≤ sizeLine
    · simp only [if_pos hl] at h3
      exact .inr (.inr ⟨z, rfl, hl, h3 _ _ _ Step.refl o3 (.str _)⟩)
    · simp only [if_neg hl] at h3
      exact h3.elim
  | _ => exact (show False from h3).elim

/-! ### built-in calls -/
def CaD (X : Cx) (r : List V → Hp → VK → Prop) (g : List PD → Option PD) : Prop := ∀ (w : Wd) (G H : Hp) (B : Bag) (vs : List V) (ds : List PD) (z : PD) (Q : VK), Ok w G H B → DRs X.K G vs ds → g ds = some z →
  (∀ (v : V) (G' H' : Hp), Step w G H G' H' → Ok w G' H' B → DR X.K G' v z → Q v H') → r vs H Q
def mCa (g : List PD → Option PD) (m : EnvM → Bag → Res (List SV)) : EnvM → Bag → Res PD := fun env B => (m env B).bind fun ss B1 => match (unD ss).bind g with
  | some z => .ok z B1
  | none => .bad
theorem ca_sem {es : List Expr} {t : TA} {m : EnvM → Bag → Res (List SV)} {r : List V → Hp → VK → Prop} {g : List PD → Option PD} (hd : CaD X r g) (ha : AD X W es t m) (w : Wd) (G0 H0 : Hp) (σ : L2.St) (env : EnvM) (G H : Hp) (B : Bag) (Q : VK)
    (R : Rel X.K w G0 H0 σ env G H B) (h : PostE X.K X.mg w G H (mCa g m env B) Q (fun c d H' => W c d σ H')) : tCB r t σ H Q := by
  refine ha.sem w G0 H0 σ env G H B _ R (PostR.bind h fun ss B1 vs G1 H1 s1 o1 d1 h1 => ?_)
  cases e : unD ss with
  | none => rw [e] at h1; exact h1.elim
  | some ds =>
    rw [e] at h1
    have h1 : PostE X.K X.mg w G1 H1 (match g ds with | some z => .ok z B1 | none => .bad) Q (fun c d H' => W c d σ H') := h1
    cases e2 : g ds with
    | none => rw [e2] at h1; exact h1.elim
    | some z =>
      rw [e2] at h1
      exact hd w G1 H1 B1 vs ds z Q o1 (d1.un e) e2 h1
theorem ed_ca {id : String} {x : Str} {e : Expr} {es : List Expr} {p pos : Pos} {t : TA} {m : EnvM → Bag → Res (List SV)} {r : List V → Hp → VK → Prop} {g : List PD → Option PD} (hc : CallR X (.builtin id) r) (hd : CaD X r g) (hm : X.mg x = none) (hv : bootBuiltins x = some (.builtin id)) (ha : AD X W (e :: es) t m)
    (hg : Gl X x := by rfl) (hn : x ≠ "__name__" := by decide) (hdb : (x == ("__debug__" : Str)) = false := by decide)
    (he : starEach (e :: es) X.env = (false, eval e X.env) :: starEach es X.env := by rfl) (hpl : (backTo pos (starEach es X.env)).any (·.1) = false := by rfl) : ED X W (.Call (.Name x p) (e :: es) [] pos) (tCB r t) (mCa g m) :=
  ⟨pe_callB hc hg hm hv ha.pe hn hdb he hpl, ca_sem hd ha⟩
theorem ed_ct {T : String} {x : Str} {e : Expr} {es : List Expr} {p pos : Pos} {t : TA} {m : EnvM → Bag → Res (List SV)} {r : List V → Hp → VK → Prop} {g : List PD → Option PD} (hc : CallR X (.type T) r) (hd : CaD X r g) (hm : X.mg x = none) (hv : bootBuiltins x = some (.type T)) (ha : AD X W (e :: es) t m)
    (hg : Gl X x := by rfl) (hn : x ≠ "__name__" := by decide) (hdb : (x == ("__debug__" : Str)) = false := by decide)
    (he : starEach (e :: es) X.env = (false, eval e X.env) :: starEach es X.env := by rfl) (hpl : (backTo pos (starEach es X.env)).any (·.1) = false := by rfl) : ED X W (.Call (.Name x p) (e :: es) [] pos) (tCB r t) (mCa g m) :=
  ⟨pe_callTy hc hg hm hv ha.pe hn hdb he hpl, ca_sem hd ha⟩
def lenP : List PD → Option PD
  | [.str x] => if x.length ≤ sizeLine then some (.int (x.length : Int)) else none
  | [.list xs] => some (.int (xs.length : Int))
  | [.tuple xs] => some (.int (xs.length : Int))
  | _ => none
theorem DRs.one {K : Fg} {G : Hp} {vs : List V} {d : PD} (r : DRs K G vs [d]) : ∃ v, vs = [v] ∧ DR K G v d := by
  cases r with
  | cons h t =>
    cases t
    exact ⟨_, rfl, h⟩
theorem ca_len : CaD X (fun xs H Q => ∃ x n, xs = [x] ∧ LenV X.K x H n ∧ Q (.int n) H) lenP := by
  intro w G H B vs ds z Q o r hz k
  unfold lenP at hz
  split at hz
  · obtain ⟨hl, rfl⟩ := some_if hz
    obtain ⟨v, rfl, d⟩ := r.one
    cases d
    exact ⟨_, _, rfl, ⟨hl, rfl⟩, k _ G H Step.refl o (.int _)⟩
  · cases hz
    obtain ⟨v, rfl, d⟩ := r.one
    cases d with
    | lst hx q => exact ⟨_, _, rfl, .inl ⟨_, subL o.sub hx, rfl⟩, by rw [q.length]; exact k _ G H Step.refl o (.int _)⟩
  · cases hz
    obtain ⟨v, rfl, d⟩ := r.one
    cases d with
    | tup hx q => exact ⟨_, _, rfl, .inr ⟨_, subT o.sub hx, rfl⟩, by rw [q.length]; exact k _ G H Step.refl o (.int _)⟩
  · cases hz
def absP : List PD → Option PD
  | [.int i] => some (.int (if i < 0 then -i else i))
  | _ => none
theorem ca_abs : CaD X (fun xs H Q => ∃ i, xs = [.int i] ∧ Q (.int (if i < 0 then -i else i)) H) absP := by
  intro w G H B vs ds z Q o r hz k
  unfold absP at hz
  split at hz
  · cases hz
    obtain ⟨v, rfl, d⟩ := r.one
    cases d
    exact ⟨_, rfl, k _ G H Step.refl o (.int _)⟩
  · cases hz
def intP : List PD → Option PD
  | [.int i] => some (.int i)
  | [.bool b] => some (.int (if b then 1 else 0))
  | _ => none
theorem ca_int : CaD X (fun xs H Q => (∃ i, xs = [.int i] ∧ Q (.int i) H) ∨ ∃ k, xs = [.bl k] ∧ Q (.int (if k then 1 else 0)) H) intP := by
  intro w G H B vs ds z Q o r hz k
  unfold intP at hz
  split at hz
  · cases hz
    obtain ⟨v, rfl, d⟩ := r.one
    cases d
    exact .inl ⟨_, rfl, k _ G H Step.refl o (.int _)⟩
  · cases hz
    obtain ⟨v, rfl, d⟩ := r.one
    cases d
    exact .inr ⟨_, rfl, k _ G H Step.refl o (.int _)⟩
  · cases hz
def listP : List PD → Option PD
  | [.list xs] => some (.list xs)
  | [.tuple xs] => some (.list xs)
  | _ => none
theorem ca_list : CaD X (fun xs H Q => ∃ p ys, xs = [.ref p] ∧ (SqL X.K H p ys ∨ SqT X.K H p ys) ∧ ∀ l, H l = none → Q (.ref l) (upd H l (.lst ys))) listP := by
  intro w G H B vs ds z Q o r hz k
  unfold listP at hz
  split at hz
  · cases hz
    obtain ⟨v, rfl, d⟩ := r.one
    cases d with
    | lst hx q => exact ⟨_, _, rfl, .inl (subL o.sub hx), fun l hl => k _ _ _ (Step.new o.sub hl) (o.new hl) (.lst upd_same (q.mono (new_sub o.sub hl)))⟩
  · cases hz
    obtain ⟨v, rfl, d⟩ := r.one
    cases d with
    | tup hx q => exact ⟨_, _, rfl, .inr (subT o.sub hx), fun l hl => k _ _ _ (Step.new o.sub hl) (o.new hl) (.lst upd_same (q.mono (new_sub o.sub hl)))⟩
  · cases hz
def tupleP : List PD → Option PD
  | [.list xs] => some (.tuple xs)
  | [.tuple xs] => some (.tuple xs)
  | _ => none
theorem ca_tuple : CaD X (ZT.rTupleP X.K) tupleP := by
  intro w G H B vs ds z Q o r hz k
  unfold tupleP at hz
  split at hz
  · cases hz
    obtain ⟨v, rfl, d⟩ := r.one
    cases d with
    | lst hx q => exact ⟨_, _, rfl, .inl ⟨subL o.sub hx, fun l ob hl hd => k _ _ _ (Step.new o.sub hl) (o.new hl) (.tup (PT.new hd) (q.mono (new_sub o.sub hl)))⟩⟩
  · cases hz
    obtain ⟨v, rfl, d⟩ := r.one
    cases d with
    | tup hx q => exact ⟨_, _, rfl, .inr ⟨subT o.sub hx, k _ G H Step.refl o (.tup hx q)⟩⟩
  · cases hz
def unI : List PD → Option (List Int)
  | [] => some []
  | .int i :: r => (unI r).map (i :: ·)
  | _ :: _ => none
theorem unI_eq : ∀ {ds : List PD} {ns : List Int}, unI ds = some ns → ds = ns.map PyData.int
  | [], ns, h => by cases h; rfl
  | d :: r, ns, h => by
    cases d with
    | int i =>
      unfold unI at h
      cases q : unI r with
      | none => rw [q] at h; cases h
      | some t =>
        rw [q] at h
        cases h
        rw [unI_eq q]
        rfl
    | _ => cases h
theorem unI_map (ns : List Int) : unI (ns.map PyData.int) = some ns := by
  induction ns with
  | nil => rfl
  | cons n r ih =>
    rw [List.map_cons]
    unfold unI
    rw [ih]
    rfl
def unBo : List PD → Option (List Bool)
  | [] => some []
  | .bool i :: r => (unBo r).map (i :: ·)
  | _ :: _ => none
theorem unBo_eq : ∀ {ds : List PD} {ns : List Bool}, unBo ds = some ns → ds = ns.map PyData.bool
  | [], ns, h => by cases h; rfl
  | d :: r, ns, h => by
    cases d with
    | bool i =>
      unfold unBo at h
      cases q : unBo r with
      | none => rw [q] at h; cases h
      | some t =>
        rw [q] at h
        cases h
        rw [unBo_eq q]
        rfl
    | _ => cases h
theorem unBo_map (ns : List Bool) : unBo (ns.map PyData.bool) = some ns := by
  induction ns with
  | nil => rfl
  | cons n r ih =>
    rw [List.map_cons]
    unfold unBo
    rw [ih]
    rfl
def onInts (f : List Int → Option PD) : List PD → Option PD
  | [.list xs] => (unI xs).bind f
  | _ => none
def onBools (f : List Bool → Option PD) : List PD → Option PD
  | [.list xs] => (unBo xs).bind f
  | _ => none
theorem onInts_inv {f : List Int → Option PD} {ds : List PD} {z : PD} (h : onInts f ds = some z) : ∃ ns, ds = [.list (ns.map PyData.int)] ∧ f ns = some z := by
  unfold onInts at h
  split at h
  · rename_i xs
    cases q : unI xs with
    | none => rw [q] at h; cases h
    | some ns =>
      rw [q] at h
      exact ⟨ns, by rw [unI_eq q], h⟩
  · cases h
theorem onBools_inv {f : List Bool → Option PD} {ds : List PD} {z : PD} (h : onBools f ds = some z) : ∃ ns, ds = [.list (ns.map PyData.bool)] ∧ f ns = some z := by
  unfold onBools at h
  split at h
  · rename_i xs
    cases q : unBo xs with
    | none => rw [q] at h; cases h
    | some ns =>
      rw [q] at h
      exact ⟨ns, by rw [unBo_eq q], h⟩
  · cases h
def sumP : List PD → Option PD := onInts fun ns => some (.int ns.sum)
def allP : List PD → Option PD := onBools fun bs => some (.bool (bs.all id))
def anyP : List PD → Option PD := onBools fun bs => some (.bool (bs.any id))
def sortI (ns : List Int) : List Int := ns.mergeSort fun i j => decide (i ≤ j)
def sortedP : List PD → Option PD := onInts fun ns => some (.list ((sortI ns).map PyData.int))
theorem ca_sum : CaD X (rSum X.K) sumP := by
  intro w G H B vs ds z Q o r hz k
  unfold sumP at hz
  obtain ⟨ns, rfl, hz2⟩ := onInts_inv hz
  cases hz2
  obtain ⟨v, rfl, d⟩ := r.one
  cases d with
  | lst hx q =>
    have e := q.of_ints
    subst e
    exact ⟨_, _, rfl, subL o.sub hx, k _ G H Step.refl o (.int _)⟩
theorem ca_all : CaD X (rAll X.K) allP := by
  intro w G H B vs ds z Q o r hz k
  unfold allP at hz
  obtain ⟨ns, rfl, hz2⟩ := onBools_inv hz
  cases hz2
  obtain ⟨v, rfl, d⟩ := r.one
  cases d with
  | lst hx q =>
    have e := q.of_bools
    subst e
    exact ⟨_, _, rfl, subL o.sub hx, k _ G H Step.refl o (.bl _)⟩
theorem ca_any : CaD X (rAny X.K) anyP := by
  intro w G H B vs ds z Q o r hz k
  unfold anyP at hz
  obtain ⟨ns, rfl, hz2⟩ := onBools_inv hz
  cases hz2
  obtain ⟨v, rfl, d⟩ := r.one
  cases d with
  | lst hx q =>
    have e := q.of_bools
    subst e
    exact ⟨_, _, rfl, subL o.sub hx, k _ G H Step.refl o (.bl _)⟩
theorem sortI_only {ns ns' : List Int} (p : ns'.Perm ns) (s : ns'.Pairwise (· ≤ ·)) : ns' = sortI ns := by
  have h1 : (sortI ns).Pairwise (· ≤ ·) := by
    have q := List.pairwise_mergeSort (le := fun i j : Int => decide (i ≤ j)) (fun a b c h1 h2 => by simp only [decide_eq_true_eq] at *; omega) (fun a b => by simp only [Bool.or_eq_true, decide_eq_true_eq]; omega) ns
    exact q.imp fun h => of_decide_eq_true h
  have h2 : (sortI ns).Perm ns := List.mergeSort_perm ns _
  exact List.Perm.eq_of_pairwise (fun a b _ _ h1 h2 => Int.le_antisymm h1 h2) s h1 (p.trans h2.symm)
theorem ca_sorted : CaD X (rSortedI X.K) sortedP := by
  intro w G H B vs ds z Q o r hz k
  unfold sortedP at hz
  obtain ⟨ns, rfl, hz2⟩ := onInts_inv hz
  cases hz2
  obtain ⟨v, rfl, d⟩ := r.one
  cases d with
  | lst hx q =>
    have e := q.of_ints
    subst e
    refine ⟨_, _, rfl, subL o.sub hx, fun ns' p hp hs hn => ?_⟩
    have e2 := sortI_only hp hs
    subst e2
    exact k _ _ _ (Step.new o.sub hn) (o.new hn) (.lst upd_same (DRs.ints _))
end
end DL
set_option Elab.async false
set_option linter.all false
set_option maxRecDepth 100000
set_option maxHeartbeats 2000000
/-! DL3: slots, targets, statements, loops, defs. -/
namespace DL
open PySem L2
open ZT (PT)
theorem Sub.refl (G : Hp) : Sub G G := fun _ _ h => h
theorem Sub.trans {A B C : Hp} (h : Sub A B) (k : Sub B C) : Sub A C := fun a o q => k a o (h a o q)
/-! ### the slots change -/
section
variable {K : Fg} {w : Wd} {G0 H0 : Hp} {σ : L2.St} {env : EnvM} {G H G' H' : Hp} {B B' : Bag} {v : V} {sv : SV}
theorem Rel.put (R : Rel K w G0 H0 σ env G H B) (i : Nat) {o : Option SV} {u : Option V} (h : ∀ sv, o = some sv → ∃ v, u = some v ∧ SR K w H0 G H v sv)
    (hd : ∀ sv, o = some sv → sv.isOwn = true → ∀ (j : Nat) (sj : SV) (p : Addr), i ≠ j → env[j]? = some (some sj) → sj.isOwn = true → u = some (.ref p) → σ[j]? ≠ some (some (.ref p))) :
    Rel K w G0 H0 (σ.set i u) (env.set i o) G H B := by
  have hl := R.len
  refine ⟨R.ok, R.ent, by rw [List.length_set, List.length_set]; exact hl, fun j sv e => ?_, fun j k si sk p hjk e1 o1 e2 o2 s1 s2 => ?_, R.wk⟩
  · by_cases hj : i = j
    · subst hj
      by_cases hi : i < env.length
      · rw [List.getElem?_set_self hi] at e
        obtain ⟨v, e2, q⟩ := h sv (Option.some.inj e)
        exact ⟨v, by rw [List.getElem?_set_self (by omega), e2], q⟩
      · rw [List.getElem?_eq_none (by rw [List.length_set]; omega)] at e
        cases e
    · rw [List.getElem?_set_ne hj] at e ⊢
      exact R.slot j sv e
  · by_cases hj : i = j
    · subst hj
      have hi : i < env.length := by
        have q := (List.getElem?_eq_some_iff.mp e1).1
        rw [List.length_set] at q
        exact q
      rw [List.getElem?_set_self hi] at e1
      rw [List.getElem?_set_self (by omega)] at s1
      rw [List.getElem?_set_ne hjk] at e2 s2
      exact hd si (Option.some.inj e1) o1 k sk p hjk e2 o2 (Option.some.inj s1) s2
    · rw [List.getElem?_set_ne hj] at e1 s1
      by_cases hk : i = k
      · subst hk
        have hi : i < env.length := by
          have q := (List.getElem?_eq_some_iff.mp e2).1
          rw [List.length_set] at q
          exact q
        rw [List.getElem?_set_self hi] at e2
        rw [List.getElem?_set_self (by omega)] at s2
        exact hd sk (Option.some.inj e2) o2 j si p (fun z => hjk z.symm) e1 o1 (Option.some.inj s2) s1
      · rw [List.getElem?_set_ne hk] at e2 s2
        exact R.dist j k si sk p hjk e1 o1 e2 o2 s1 s2
theorem Rel.set (R : Rel K w G0 H0 σ env G H B) (i : Nat) {d : PD} (h : DR K G v d) : Rel K w G0 H0 (σ.set i (some v)) (env.set i (some (.d d))) G H B :=
  R.put i (fun sv e => by cases e; exact ⟨v, rfl, h⟩) fun sv e o => by cases e; cases o
theorem Rel.drop (R : Rel K w G0 H0 σ env G H B) (i : Nat) (u : Option V) : Rel K w G0 H0 (σ.set i u) (env.set i none) G H B :=
  R.put i (fun sv e => by cases e) fun sv e => by cases e
def wipeE (env : EnvM) : List Nat → EnvM
  | [] => env
  | v :: vs => (wipeE env vs).set v none
theorem Rel.wipe (R : Rel K w G0 H0 σ env G H B) : ∀ vs : List Nat, Rel K w G0 H0 (wipe σ vs) (wipeE env vs) G H B
  | [] => R
  | v :: vs => (Rel.wipe R vs).drop v none
end
theorem wipe_ne {σ : L2.St} {i : Nat} {o : Option V} : ∀ {vs : List Nat}, i ∉ vs → wipe (σ.set i o) vs = (wipe σ vs).set i o
  | [], _ => rfl
  | v :: vs, h => by
    have h1 : i ≠ v := fun e => h (by rw [e]; exact List.mem_cons_self)
    have h2 : i ∉ vs := fun e => h (List.mem_cons_of_mem _ e)
    show (wipe (σ.set i o) vs).set v none = ((wipe σ vs).set v none).set i o
    rw [wipe_ne h2, List.set_comm _ _ h1]
theorem wipe_set {σ : L2.St} {i : Nat} {o : Option V} : ∀ {vs : List Nat}, i ∈ vs → wipe (σ.set i o) vs = wipe σ vs
  | [], h => by cases h
  | v :: vs, h => by
    show (wipe (σ.set i o) vs).set v none = (wipe σ vs).set v none
    by_cases h2 : i ∈ vs
    · rw [wipe_set h2]
    · have e : i = v := by
        rcases List.mem_cons.mp h with e | e
        · exact e
        · exact absurd e h2
      subst e
      rw [wipe_ne h2, List.set_set]
/-! ### targets -/
structure GT (X : Cx) (st : Bool) (tg : Expr) (g : TG) (mg : PD → EnvM → Option EnvM) (js : List Nat) : Prop where
  pg : PG X tg g
  sem : ∀ (w : Wd) (G0 H0 : Hp) (σ : L2.St) (env : EnvM) (G H : Hp) (B : Bag) (v : V) (d : PD) (env' : EnvM) (Q : L2.St → Hp → Prop), Rel X.K w G0 H0 σ env G H B → DRb X.K G st v d → mg d env = some env' →
    (∀ σ' : L2.St, Rel X.K w G0 H0 σ' env' G H B → (∀ vs : List Nat, (∀ j ∈ js, j ∈ vs) → wipe σ' vs = wipe σ vs) → Q σ' H) → g v σ H Q
structure GTs (X : Cx) (ts : List Expr) (g : TGs) (mg : List PD → EnvM → Option EnvM) (js : List Nat) : Prop where
  pg : PGs X ts g
  sem : ∀ (w : Wd) (G0 H0 : Hp) (σ : L2.St) (env : EnvM) (G H : Hp) (B : Bag) (vs : List V) (ds : List PD) (env' : EnvM) (Q : L2.St → Hp → Prop), Rel X.K w G0 H0 σ env G H B → DRs X.K G vs ds → mg ds env = some env' →
    (∀ σ' : L2.St, Rel X.K w G0 H0 σ' env' G H B → (∀ us : List Nat, (∀ j ∈ js, j ∈ us) → wipe σ' us = wipe σ us) → Q σ' H) → g vs σ H Q
section
variable {X : Cx} {W : WX}
def mgName (i : Nat) : PD → EnvM → Option EnvM := fun d env => some (env.set i (some (.d d)))
theorem gt_name (i : Nat) {x : Str} {pos : Pos} (hN : X.N.Nodup) (hi : X.N[i]? = some x := by rfl) (hx : Loc X.env.scope x := by first | exact Or.inl rfl | exact Or.inr rfl) (hf : X.fn x = true ∨ X.env.scope.names.lookup x = some .local := by first | exact .inl rfl | exact .inr rfl) : GT X true (.Name x pos) (gName i) (mgName i) [i] := by
  refine ⟨pg_name hN hi hx hf, fun w G0 H0 σ env G H B v d env' Q R h e k => ?_⟩
  cases e
  exact k _ (R.set i h) fun vs hv => wipe_set (hv i List.mem_cons_self)
def mgNil : List PD → EnvM → Option EnvM := fun ds env => match ds with
  | [] => some env
  | _ => none
def mgCons (a : PD → EnvM → Option EnvM) (r : List PD → EnvM → Option EnvM) : List PD → EnvM → Option EnvM := fun ds env => match ds with
  | d :: ds => (a d env).bind (r ds)
  | [] => none
theorem gts_nil : GTs X [] gNil mgNil [] := by
  refine ⟨pgs_nil, fun w G0 H0 σ env G H B vs ds env' Q R h e k => ?_⟩
  cases ds with
  | nil =>
    cases h
    cases e
    exact ⟨rfl, k σ R fun _ _ => rfl⟩
  | cons d ds => cases e
theorem gts_cons {e : Expr} {es : List Expr} {g : TG} {gs : TGs} {ma : PD → EnvM → Option EnvM} {mr : List PD → EnvM → Option EnvM} {js ks : List Nat} (h1 : GT X true e g ma js) (h2 : GTs X es gs mr ks)
    (hs : (assignEach (e :: es) X.env).map (·.2) = assign e X.env :: (assignEach es X.env).map (·.2) := by rfl) : GTs X (e :: es) (gCons g gs) (mgCons ma mr) (js ++ ks) := by
  refine ⟨pgs_cons h1.pg h2.pg hs, fun w G0 H0 σ env G H B vs ds env' Q R h e k => ?_⟩
  cases ds with
  | nil => cases e
  | cons d ds =>
    cases h with
    | cons hd hr =>
      rename_i v vs
      have e : (ma d env).bind (mr ds) = some env' := e
      cases q : ma d env with
      | none => rw [q] at e; cases e
      | some env1 =>
        rw [q] at e
        refine ⟨v, vs, rfl, h1.sem w G0 H0 σ env G H B v d env1 _ R hd q fun σ1 R1 w1 => ?_⟩
        refine h2.sem w G0 H0 σ1 env1 G H B vs ds env' _ R1 hr e fun σ2 R2 w2 => k σ2 R2 fun us hu => ?_
        rw [w2 us fun j hj => hu j (List.mem_append_right _ hj), w1 us fun j hj => hu j (List.mem_append_left _ hj)]
def mgTup (r : List PD → EnvM → Option EnvM) (n : Nat) : PD → EnvM → Option EnvM := fun d env => match d with
  | .tuple ds => if ds.length = n then r ds env else none
  | _ => none
theorem sqT_sub {K : Fg} {G G' : Hp} {a : Addr} {xs : List V} (e : Sub G G') (h : SqT K G a xs) : SqT K G' a xs := by
  rcases h with (h | ⟨o, h⟩) | h
  · exact .inl (.inl (e _ _ h))
  · exact .inl (.inr ⟨o, e _ _ h⟩)
  · exact .inr h
theorem gt_tup {st : Bool} {es : List Expr} {k : Nat} {g : TGs} {mr : List PD → EnvM → Option EnvM} {js : List Nat} {n : Nat} {pos : Pos} (hc : X.calm = true) (h : GTs X es g mr js)
    (hn : (assignEach es X.env).length = n := by rfl) (hst : (assignEach es X.env).findIdx? (·.1) = none := by rfl) : GT X st (.Tuple es k pos) (gTup X.K n g) (mgTup mr n) js := by
  refine ⟨pg_tup hc h.pg hn hst, fun w G0 H0 σ env G H B v d env' Q R hd e k => ?_⟩
  cases d with
  | tuple ds =>
    have e : (if ds.length = n then mr ds env else none) = some env' := e
    by_cases hl : ds.length = n
    · rw [if_pos hl] at e
      obtain ⟨a, xs, e1, hx, r⟩ := hd.tup
      exact ⟨a, xs, e1, sqT_sub R.ok.sub hx, by rw [r.length]; exact hl, h.sem w G0 H0 σ env G H B _ ds env' Q R r e k⟩
    · rw [if_neg hl] at e; cases e
  | _ => cases e

/-! ### statements -/
def Res.s {α : Type} (r : Res α) (env : EnvM) (k : α → Bag → SRes) : SRes := match r with
  | .ok a B => k a B
  | .exc c as B => .exc c as env B
  | .bad => .bad
theorem PostS.bind {α β : Type} {K : Fg} {mg : Str → Option Value} {w : Wd} {G0 H0 G H Gs : Hp} {Ra : Hp → β → α → Prop} {r : Res α} {f : α → Bag → SRes} {Q1 : β → Hp → Prop} {D : Ends} {W : WX} {σ : L2.St} {env : EnvM} {B0 : Bag} (R : Rel K w G0 H0 σ env G H B0) (hs : Sub Gs G)
    (h : PostS K mg w G0 H0 Gs W D (r.s env f)) (k : ∀ a B' v G' H', Step w G H G' H' → Ok w G' H' B' → Ra G' v a → PostS K mg w G0 H0 Gs W D (f a B') → Q1 v H') : PostR K mg w G H Ra r Q1 (fun c d H' => W c d σ H') := by
  cases r with
  | ok a B => exact fun v G2 H2 s2 o d => k a B v G2 H2 s2 o d h
  | exc c as B => exact fun cls dd fs G' H' m s o d f => h σ cls dd fs G' H' m (R.step s o) (Sub.trans hs s.exG) d f
  | bad => exact h
def mSkip : EnvM → Bag → SRes := fun env B => .nx env B
def mSeq (a b : EnvM → Bag → SRes) : EnvM → Bag → SRes := fun env B => match a env B with
  | .nx env1 B1 => b env1 B1
  | r => r
theorem sds_nil : SDs X W [] tNext mSkip := ⟨pss_nil, fun w G0 H0 σ env G H B D R h => h σ G H R (Sub.refl G)⟩
theorem sds_cons {st : Stmt} {rest : List Stmt} {t u : TS} {a b : EnvM → Bag → SRes} (h1 : SD X W st t a) (h2 : SDs X W rest u b) : SDs X W (st :: rest) (tSeq t u) (mSeq a b) := by
  refine ⟨pss_cons h1.pe h2.pe, fun w G0 H0 σ env G H B D R h => ?_⟩
  refine h1.sem w G0 H0 σ env G H B _ R ?_
  unfold mSeq at h
  cases e : a env B with
  | nx env1 B1 =>
    rw [e] at h
    exact fun σ' G' H' R' s' => h2.sem w G0 H0 σ' env1 G' H' B1 D R' (h.sub s')
  | bk env1 B1 => rw [e] at h; exact h
  | ct env1 B1 => rw [e] at h; exact h
  | ret d B1 => rw [e] at h; exact h
  | exc c as e1 B1 => rw [e] at h; exact h
  | bad => rw [e] at h; exact h
theorem sds_one {st : Stmt} {t : TS} {a : EnvM → Bag → SRes} (h1 : SD X W st t a) : SDs X W [st] t a := ⟨pss_one h1.pe, h1.sem⟩
def mSet (g : PD → EnvM → Option EnvM) (m : EnvM → Bag → Res PD) : EnvM → Bag → SRes := fun env B => (m env B).s env fun d B1 => match g d env with
  | some env1 => .nx env1 B1
  | none => .bad
/-- x = e -/
theorem sd_set (i : Nat) {x : Str} {e : Expr} {t : TE} {m : EnvM → Bag → Res PD} {pos pos' : Pos} (hN : X.N.Nodup) (he : ED X W e t m) (hi : X.N[i]? = some x := by rfl) (hx : Loc X.env.scope x := by first | exact Or.inl rfl | exact Or.inr rfl)
    (hs : swapsWith e (some (.Name x pos')) pos.line X.env = pure false := by rfl) (hf : X.fn x = true ∨ X.env.scope.names.lookup x = some .local := by first | exact .inl rfl | exact .inr rfl) :
    SD X W (.Assign [.Name x pos'] e pos) (tAsg t (gName i)) (mSet (mgName i) m) := by
  refine ⟨ps_set hN hi hx he.pe hs hf, fun w G0 H0 σ env G H B D R h => ?_⟩
  refine he.sem w G0 H0 σ env G H B _ R (PostS.bind R (Sub.refl _) h fun d B1 v G1 H1 s1 o1 d1 h1 => ?_)
  exact h1 _ G1 H1 ((R.step s1 o1).set i d1) s1.exG
/-- target = e -/
theorem sd_asg {tg e : Expr} {t : TE} {g : TG} {m : EnvM → Bag → Res PD} {mg : PD → EnvM → Option EnvM} {js : List Nat} {pos : Pos} (he : ED X W e t m) (hg : GT X true tg g mg js) (hs : swapsWithSole [tg] e pos.line X.env = pure false := by rfl) (hw : swappedStores [tg] e X.env = pure none := by rfl)
    (h1 : (assignEach [tg] X.env).map (·.2) = [assign tg X.env] := by rfl) : SD X W (.Assign [tg] e pos) (tAsg t g) (mSet mg m) := by
  refine ⟨ps_asg he.pe hg.pg hs hw h1, fun w G0 H0 σ env G H B D R h => ?_⟩
  refine he.sem w G0 H0 σ env G H B _ R (PostS.bind R (Sub.refl _) h fun d B1 v G1 H1 s1 o1 d1 h1 => ?_)
  cases q : mg d env with
  | none => simp only [q] at h1; exact h1.elim
  | some env1 =>
    simp only [q] at h1
    exact hg.sem w G0 H0 σ env G1 H1 B1 v d env1 _ (R.step s1 o1) d1 q fun σ' R' _ => h1 σ' G1 H1 R' s1.exG
/-- a, b = e1, e2 -/
def mPar (i j : Nat) (m : EnvM → Bag → Res (List SV)) : EnvM → Bag → SRes := fun env B => (m env B).s env fun ss B1 => match unD ss with
  | some [d, e] => .nx ((env.set i (some (.d d))).set j (some (.d e))) B1
  | _ => .bad
theorem sd_par (i j : Nat) {x y : Str} {a b : Expr} {ta : TA} {m : EnvM → Bag → Res (List SV)} {px py pt pos : Pos} {kt k2 pt2} (hc : X.calm = true) (hN : X.N.Nodup) (ha : AD X W [a, b] ta m) (hi : X.N[i]? = some x := by rfl) (hj : X.N[j]? = some y := by rfl) (hij : i ≠ j := by decide)
    (hx : X.env.scope.names.lookup x = some .local := by rfl) (hy : X.env.scope.names.lookup y = some .local := by rfl)
    (hw : swappedStores [.Tuple [.Name x px, .Name y py] kt pt] (.Tuple [a, b] k2 pt2) X.env = pure (some [x, y]) := by rfl)
    (hs : swapsWithSole [.Tuple [.Name x px, .Name y py] kt pt] (.Tuple [a, b] k2 pt2) pos.line X.env = pure false := by rfl) :
    SD X W (.Assign [.Tuple [.Name x px, .Name y py] kt pt] (.Tuple [a, b] k2 pt2) pos) (tPar i j ta) (mPar i j m) := by
  refine ⟨ps_par hc hN hi hj hij hx hy ha.pe hw hs, fun w G0 H0 σ env G H B D R h => ?_⟩
  refine ha.sem w G0 H0 σ env G H B _ R (PostS.bind R (Sub.refl _) h fun ss B1 vs G1 H1 s1 o1 d1 h1 => ?_)
  cases e : unD ss with
  | none => simp only [e] at h1; exact h1.elim
  | some ds =>
    have q := d1.un e
    match ds, e, q with
    | [], e, q => simp only [e] at h1; exact h1.elim
    | [_], e, q => simp only [e] at h1; exact h1.elim
    | [d, d'], e, .cons hd (.cons hd' .nil) =>
      simp only [e] at h1
      exact ⟨_, _, rfl, h1 _ G1 H1 (((R.step s1 o1).set i hd).set j hd') s1.exG⟩
    | _ :: _ :: _ :: _, e, q => simp only [e] at h1; exact h1.elim
/-- return e -/
def mRet (m : EnvM → Bag → Res PD) : EnvM → Bag → SRes := fun env B => (m env B).s env fun d B1 => .ret d B1
theorem sd_ret {e : Expr} {t : TE} {m : EnvM → Bag → Res PD} {pos : Pos} (he : ED X W e t m) : SD X W (.Return (some e) pos) (tRet t) (mRet m) := by
  refine ⟨ps_ret he.pe, fun w G0 H0 σ env G H B D R h => ?_⟩
  refine he.sem w G0 H0 σ env G H B _ R (PostS.bind R (Sub.refl _) h fun d B1 v G1 H1 s1 o1 d1 h1 => ?_)
  exact h1 v G1 H1 (R.ent.trans s1) o1 d1
def mRetN : EnvM → Bag → SRes := fun _ B => .ret .none B
theorem sd_retN {pos : Pos} : SD X W (.Return none pos) tRetN mRetN := ⟨ps_retN, fun w G0 H0 σ env G H B D R h => h .non G H R.ent R.ok .non⟩
theorem sd_pass {pos : Pos} : SD X W (.Pass pos) tNext mSkip := ⟨ps_pass, fun w G0 H0 σ env G H B D R h => h σ G H R (Sub.refl G)⟩
def mBreak : EnvM → Bag → SRes := fun env B => .bk env B
def mCont : EnvM → Bag → SRes := fun env B => .ct env B
theorem sd_break {pos : Pos} : SD X W (.Break pos) tBreak mBreak := ⟨ps_break, fun w G0 H0 σ env G H B D R h => h σ G H R (Sub.refl G)⟩
theorem sd_cont {pos : Pos} : SD X W (.Continue pos) tCont mCont := ⟨ps_continue, fun w G0 H0 σ env G H B D R h => h σ G H R (Sub.refl G)⟩
/-- e -/
def mDrop (m : EnvM → Bag → Res PD) : EnvM → Bag → SRes := fun env B => (m env B).s env fun _ B1 => .nx env B1
theorem sd_expr {e : Expr} {t : TE} {m : EnvM → Bag → Res PD} {pos : Pos} (he : ED X W e t m) (hs : swapsWith e none pos.line X.env = pure false := by rfl) : SD X W (.Expr e pos) (tDrop t) (mDrop m) := by
  refine ⟨ps_expr he.pe hs, fun w G0 H0 σ env G H B D R h => ?_⟩
  refine he.sem w G0 H0 σ env G H B _ R (PostS.bind R (Sub.refl _) h fun d B1 v G1 H1 s1 o1 d1 h1 => ?_)
  exact h1 σ G1 H1 (R.step s1 o1) s1.exG
/-- if -/
def mIf (c : EnvM → Bag → Res Bool) (a b : EnvM → Bag → SRes) : EnvM → Bag → SRes := fun env B => (c env B).s env fun k B1 => if k = true then a env B1 else b env B1
theorem sd_if {c : Expr} {a b : List Stmt} {tc : TT} {t u : TS} {mc : EnvM → Bag → Res Bool} {ma mb : EnvM → Bag → SRes} {pos : Pos} (hc : TD X W c tc mc) (ha : SDs X W a t ma) (hb : SDs X W b u mb) : SD X W (.If c a b pos) (tIfS tc t u) (mIf mc ma mb) := by
  refine ⟨ps_if hc.pe ha.pe hb.pe, fun w G0 H0 σ env G H B D R h => ?_⟩
  refine hc.sem w G0 H0 σ env G H B _ R (PostS.bind R (Sub.refl _) h fun k B1 v G1 H1 s1 o1 d1 h1 => ?_)
  subst d1
  cases v with
  | true => exact iteT (ha.sem w G0 H0 σ env G1 H1 B1 D (R.step s1 o1) (PostS.sub s1.exG h1))
  | false => exact iteF (hb.sem w G0 H0 σ env G1 H1 B1 D (R.step s1 o1) (PostS.sub s1.exG h1))
/-- x += e, ints -/
def mAug (i : Nat) (f : Int → Int → Int) (m : EnvM → Bag → Res PD) : EnvM → Bag → SRes := fun env B => match env[i]? with
  | some (some (.d (.int a))) => (m env B).s env fun d B1 => match d with
    | .int b => .nx (env.set i (some (.d (.int (f a b))))) B1
    | _ => .bad
  | _ => .bad
theorem sd_aug (i : Nat) {x : Str} {e : Expr} {t : TE} {m : EnvM → Bag → Res PD} {op : Operator} {f : Int → Int → Int} {pos pos' : Pos} (hN : X.N.Nodup) (ho : PIp X op (ipI f)) (he : ED X W e t m) (hi : X.N[i]? = some x := by rfl) (hx : Loc X.env.scope x := by first | exact Or.inl rfl | exact Or.inr rfl)
    (hf : X.fn x = true ∨ X.env.scope.names.lookup x = some .local := by first | exact .inl rfl | exact .inr rfl) :
    SD X W (.AugAssign (.Name x pos') op e pos) (tAug i t (ipI f)) (mAug i f m) := by
  refine ⟨ps_aug hN hi hx he.pe ho hf, fun w G0 H0 σ env G H B D R h => ?_⟩
  unfold mAug at h
  split at h
  · rename_i a q
    obtain ⟨v, h1, h2⟩ := R.slot i _ q
    have e := DR.int_inv h2
    subst e
    refine ⟨_, h1, ?_⟩
    refine he.sem w G0 H0 σ env G H B _ R (PostS.bind R (Sub.refl _) h fun d B1 v G1 H1 s1 o1 d1 h1 => ?_)
    cases d with
    | int b => exact ⟨a, b, rfl, d1.int_inv, h1 _ G1 H1 ((R.step s1 o1).set i (.int _)) s1.exG⟩
    | _ => exact (show False from h1).elim
  · exact h.elim

/-! ### what is walked -/
structure Walks (K : Fg) (st : Bool) (J : It) (G : Hp) (ds : List PD) : Prop where
  go : ∀ (i : Nat) (H : Hp) (d : PD), Sub G H → ds[i]? = some d → J.go i H
  yld : ∀ (i : Nat) (w : Wd) (G' H : Hp) (B : Bag) (x : V) (H' : Hp) (d : PD), Ok w G' H B → Sub G G' → ds[i]? = some d → J.yld i H x H' → ∃ G2, Step w G' H G2 H' ∧ Ok w G2 H' B ∧ DRb K G2 st x d
  stop : ∀ (i : Nat) (H : Hp), Sub G H → ds.length ≤ i → J.stop i H
theorem Walks.list {K : Fg} {G : Hp} {a : Addr} {vs : List V} {ds : List PD} (h : G a = some (.lst vs)) (r : DRs K G vs ds) : Walks K true (Itl K a) G ds where
  go := fun i H d hs e => let ⟨v, h1, _⟩ := r.get e; ⟨vs, v, subL hs h, h1⟩
  yld := fun i w G' H B x H' d o hs e y => by
    obtain ⟨e1, y⟩ := y
    subst e1
    obtain ⟨v, h1, h2⟩ := r.get e
    have h3 := y vs (subL o.sub (hs _ _ h))
    rw [h1] at h3
    cases h3
    exact ⟨G', Step.refl, o, h2.mono hs⟩
  stop := fun i H hs e => ⟨vs, subL hs h, by rw [r.length]; exact e⟩
theorem Walks.tuple {K : Fg} {G : Hp} {a : Addr} {vs : List V} {ds : List PD} (h : PT K G a vs) (r : DRs K G vs ds) : Walks K true (Itt K a) G ds where
  go := fun i H d hs e => let ⟨v, h1, _⟩ := r.get e; ⟨vs, v, subT hs h, h1⟩
  yld := fun i w G' H B x H' d o hs e y => by
    obtain ⟨e1, y⟩ := y
    subst e1
    obtain ⟨v, h1, h2⟩ := r.get e
    have h3 := y vs (subT o.sub (sbPT hs h))
    rw [h1] at h3
    cases h3
    exact ⟨G', Step.refl, o, h2.mono hs⟩
  stop := fun i H hs e => ⟨vs, subT hs h, by rw [r.length]; exact e⟩
def rangeP (lo : Int) (n : Nat) : List PD := (List.range n).map fun i : Nat => .int (lo + (i : Int))
theorem rangeP_get {lo : Int} {n i : Nat} {d : PD} (h : (rangeP lo n)[i]? = some d) : i < n ∧ d = .int (lo + (i : Int)) := by
  unfold rangeP at h
  rw [List.getElem?_map] at h
  cases e : (List.range n)[i]? with
  | none => rw [e] at h; cases h
  | some j =>
    rw [e] at h
    obtain ⟨h1, h2⟩ := List.getElem?_eq_some_iff.mp e
    rw [List.length_range] at h1
    rw [List.getElem_range] at h2
    subst h2
    exact ⟨h1, by cases h; rfl⟩
theorem rangeP_len (lo : Int) (n : Nat) : (rangeP lo n).length = n := by
  unfold rangeP
  rw [List.length_map, List.length_range]
theorem Walks.range {K : Fg} {G : Hp} {lo : Int} {n : Nat} : Walks K true (Itr lo n) G (rangeP lo n) where
  go := fun i H d hs e => (rangeP_get e).1
  yld := fun i w G' H B x H' d o hs e y => by
    obtain ⟨e1, y⟩ := y
    subst e1
    obtain ⟨_, h2⟩ := rangeP_get e
    subst h2
    subst y
    exact ⟨G', Step.refl, o, .int _⟩
  stop := fun i H hs e => by rw [rangeP_len] at e; exact e
structure WI (X : Cx) (W : WX) (st : Bool) (tg iter : Expr) (wi : TI) (m : EnvM → Bag → Res (List PD)) : Prop where
  pe : PI X tg iter wi
  sem : ∀ (w : Wd) (G0 H0 : Hp) (σ : L2.St) (env : EnvM) (G H : Hp) (B : Bag) (Q : It → Hp → Prop), Rel X.K w G0 H0 σ env G H B →
    PostR X.K X.mg w G H (fun G' J ds => Walks X.K st J G' ds) (m env B) Q (fun c d H' => W c d σ H') → wi σ H Q
def mSeqOf (m : EnvM → Bag → Res PD) : EnvM → Bag → Res (List PD) := fun env B => (m env B).bind fun d B1 => match d with
  | .list ds => .ok ds B1
  | .tuple ds => .ok ds B1
  | _ => .bad
theorem pi_or {tg iter : Expr} {w1 w2 : TI} (h1 : PI X tg iter w1) (h2 : PI X tg iter w2) : PI X tg iter (fun σ H R => w1 σ H R ∨ w2 σ H R) :=
  ⟨fun pins s σ H R I h => by
    rcases h with h | h
    · exact h1.run pins s σ H R I h
    · exact h2.run pins s σ H R I h⟩
/-- over a list or a tuple -/
theorem wi_seq {tg e : Expr} {t : TE} {m : EnvM → Bag → Res PD} (h : ED X W e t m) : WI X W true tg e (fun σ H R => iList X.K t σ H R ∨ iTup X.K t σ H R) (mSeqOf m) := by
  refine ⟨pi_or (pi_list h.pe) (pi_tup h.pe), fun w G0 H0 σ env G H B Q R hp => ?_⟩
  unfold mSeqOf at hp
  cases e : m env B with
  | ok d B1 =>
    rw [e] at hp
    have mk : ∀ Q1 : VK, (∀ v G' H', Step w G H G' H' → Ok w G' H' B1 → DR X.K G' v d → Q1 v H') → PostE X.K X.mg w G H (m env B) Q1 (fun c d H' => W c d σ H') := fun Q1 k => by
      rw [e]
      exact k
    cases d with
    | list ds =>
      left
      refine h.sem w G0 H0 σ env G H B _ R (mk _ fun v G' H' s o dv => ?_)
      cases dv with
      | lst hx r => exact ⟨_, rfl, ⟨_, subL o.sub hx⟩, hp _ G' H' s o (Walks.list hx r)⟩
    | tuple ds =>
      right
      refine h.sem w G0 H0 σ env G H B _ R (mk _ fun v G' H' s o dv => ?_)
      cases dv with
      | tup hx r => exact ⟨_, rfl, ⟨_, subT o.sub hx⟩, hp _ G' H' s o (Walks.tuple hx r)⟩
    | _ => exact (show False from hp).elim
  | exc c as B1 =>
    rw [e] at hp
    left
    refine h.sem w G0 H0 σ env G H B _ R ?_
    rw [e]
    exact hp
  | bad => rw [e] at hp; exact hp.elim
def mRange1 (m : EnvM → Bag → Res (List SV)) : EnvM → Bag → Res (List PD) := fun env B => (m env B).bind fun ss B1 => match unD ss with
  | some [.int j] => if -(2 ^ 62) ≤ j ∧ j < 2 ^ 62 then .ok (rangeP 0 j.toNat) B1 else .bad
  | _ => .bad
def mRange2 (m : EnvM → Bag → Res (List SV)) : EnvM → Bag → Res (List PD) := fun env B => (m env B).bind fun ss B1 => match unD ss with
  | some [.int i, .int j] => if -(2 ^ 62) ≤ i ∧ i < 2 ^ 62 ∧ -(2 ^ 62) ≤ j ∧ j < 2 ^ 62 then .ok (rangeP i (j - i).toNat) B1 else .bad
  | _ => .bad
theorem wi_range1 {tg a : Expr} {ta : TA} {m : EnvM → Bag → Res (List SV)} {p pos : Pos} (hm : X.mg "range" = none) (ha : AD X W [a] ta m) (hg : Gl X "range" := by rfl) (hs : starEach [a] X.env = [(false, eval a X.env)] := by rfl) : WI X W true tg (.Call (.Name "range" p) [a] [] pos) (iRng1 ta) (mRange1 m) := by
  refine ⟨pi_range1 hg hm ha.pe hs, fun w G0 H0 σ env G H B Q R h => ?_⟩
  refine ha.sem w G0 H0 σ env G H B _ R (PostR.bind h fun ss B1 vs G1 H1 s1 o1 d1 h1 => ?_)
  split at h1
  · rename_i j e
    have q := d1.un e
    obtain ⟨v, rfl, dv⟩ := q.one
    cases dv
    by_cases hc : -(2 ^ 62) ≤ j ∧ j < 2 ^ 62
    · rw [if_pos hc] at h1
      exact ⟨j, rfl, hc.1, hc.2, h1 _ G1 H1 Step.refl o1 Walks.range⟩
    · rw [if_neg hc] at h1; exact h1.elim
  · exact h1.elim
theorem wi_range2 {tg a b : Expr} {ta : TA} {m : EnvM → Bag → Res (List SV)} {p pos : Pos} (hm : X.mg "range" = none) (ha : AD X W [a, b] ta m) (hg : Gl X "range" := by rfl) (hs : starEach [a, b] X.env = [(false, eval a X.env), (false, eval b X.env)] := by rfl) (hs2 : starEach [b] X.env = [(false, eval b X.env)] := by rfl) : WI X W true tg (.Call (.Name "range" p) [a, b] [] pos) (iRng2 ta) (mRange2 m) := by
  refine ⟨pi_range2 hg hm ha.pe hs hs2, fun w G0 H0 σ env G H B Q R h => ?_⟩
  refine ha.sem w G0 H0 σ env G H B _ R (PostR.bind h fun ss B1 vs G1 H1 s1 o1 d1 h1 => ?_)
  split at h1
  · rename_i i j e
    have q := d1.un e
    match vs, q with
    | _, .cons di (.cons dj .nil) =>
      cases di; cases dj
      by_cases hc : -(2 ^ 62) ≤ i ∧ i < 2 ^ 62 ∧ -(2 ^ 62) ≤ j ∧ j < 2 ^ 62
      · rw [if_pos hc] at h1
        exact ⟨i, j, rfl, hc, h1 _ G1 H1 Step.refl o1 Walks.range⟩
      · rw [if_neg hc] at h1; exact h1.elim
  · exact h1.elim

/-! ### for -/
def mLoop (g : PD → EnvM → Option EnvM) (body : EnvM → Bag → SRes) : List PD → EnvM → Bag → SRes
  | [], env, B => .nx env B
  | d :: ds, env, B => match g d env with
    | none => .bad
    | some env1 => match body env1 B with
      | .nx env2 B2 => mLoop g body ds env2 B2
      | .ct env2 B2 => mLoop g body ds env2 B2
      | .bk env2 B2 => .nx env2 B2
      | .ret d B2 => .ret d B2
      | .exc c as e2 B2 => .exc c as e2 B2
      | .bad => .bad
def mFor (src : EnvM → Bag → Res (List PD)) (g : PD → EnvM → Option EnvM) (body : EnvM → Bag → SRes) : EnvM → Bag → SRes := fun env B => (src env B).s env fun ds B1 => mLoop g body ds env B1
theorem sd_for {st : Bool} {iter tg : Expr} {body : List Stmt} {wi : TI} {g : TG} {tb : TS} {mi : EnvM → Bag → Res (List PD)} {mg : PD → EnvM → Option EnvM} {js : List Nat} {mb : EnvM → Bag → SRes} {pos : Pos} (hp : PassesOwn (model X.prog X.w) X.A X.env X.xe) (hc : X.calm = true)
    (hi : WI X W st tg iter wi mi) (hg : GT X st tg g mg js) (hb : SDs X W body tb mb) (hs : ∀ x, foldedSetIterable iter X.env x = pure x := by intro _; rfl) : SD X W (.For tg iter body [] pos) (tFor wi g tb) (mFor mi mg mb) := by
  refine ⟨ps_for hp hc hi.pe hg.pg hb.pe hs, fun w G0 H0 σ env G H B D R h => ?_⟩
  refine hi.sem w G0 H0 σ env G H B _ R (PostS.bind R (Sub.refl _) h fun ds B1 J G1 H1 s1 o1 wk h1 => ?_)
  have R1 := R.step s1 o1
  refine ⟨fun i m σ H => m = ds.length - i ∧ i ≤ ds.length ∧ ∃ env G' B, Rel X.K w G0 H0 σ env G' H B ∧ Sub G1 G' ∧ PostS X.K X.mg w G0 H0 G' W D (mLoop mg mb (ds.drop i) env B), ⟨ds.length, by simp, Nat.zero_le _, env, G1, B1, R1, Sub.refl _, PostS.sub s1.exG h1⟩, ?_⟩
  rintro i m σ2 H2 ⟨rfl, hi, env2, G2, B2, R2, e2, p2⟩
  by_cases hlt : i < ds.length
  · right
    have hd : ds[i]? = some ds[i] := by simp [hlt]
    refine ⟨wk.go i H2 _ (Sub.trans e2 R2.ok.sub) hd, fun σ' H' => ∃ env' G' B', Rel X.K w G0 H0 σ' env' G' H' B' ∧ Sub G1 G' ∧ PostS X.K X.mg w G0 H0 G' W D (mLoop mg mb (ds.drop (i + 1)) env' B'), fun σ' H' ⟨env', G', B', R', e', p'⟩ => ⟨ds.length - (i + 1), by omega, rfl, hlt, env', G', B', R', e', p'⟩, fun x H3 y => ?_⟩
    obtain ⟨G3, s3, o3, d3⟩ := wk.yld i w G2 H2 B2 x H3 _ R2.ok e2 hd y
    rw [List.drop_eq_getElem_cons hlt] at p2
    have p2 := PostS.sub s3.exG p2
    unfold mLoop at p2
    cases q : mg ds[i] env2 with
    | none => rw [q] at p2; exact p2.elim
    | some env3 =>
      rw [q] at p2
      refine hg.sem w G0 H0 σ2 env2 G3 H3 B2 x _ env3 _ (R2.step s3 o3) d3 q fun σ4 R4 _ => ?_
      refine hb.sem w G0 H0 σ4 env3 G3 H3 B2 _ R4 ?_
      cases z : mb env3 B2 with
      | nx env4 B4 => simp only [z] at p2; exact fun σ' G' H' R' s' => ⟨env4, G', B4, R', Sub.trans (Sub.trans e2 s3.exG) s', PostS.sub s' p2⟩
      | ct env4 B4 => simp only [z] at p2; exact fun σ' G' H' R' s' => ⟨env4, G', B4, R', Sub.trans (Sub.trans e2 s3.exG) s', PostS.sub s' p2⟩
      | bk env4 B4 => simp only [z] at p2; exact fun σ' G' H' R' s' => p2 σ' G' H' R' s'
      | ret d B4 => simp only [z] at p2; exact p2
      | exc c as e4 B4 => simp only [z] at p2; exact p2
      | bad => simp only [z] at p2; exact p2.elim
  · left
    have e : i = ds.length := by omega
    subst e
    rw [List.drop_length] at p2
    exact ⟨wk.stop _ H2 (Sub.trans e2 R2.ok.sub) (Nat.le_refl _), p2 σ2 G2 H2 R2 (Sub.refl _)⟩

/-! ### while -/
def mWh (c : EnvM → Bag → Res Bool) (body : EnvM → Bag → SRes) : Nat → EnvM → Bag → SRes
  | 0, _, _ => .bad
  | n + 1, env, B => (c env B).s env fun k B1 => if k = true then (match body env B1 with
      | .nx env2 B2 => mWh c body n env2 B2
      | .ct env2 B2 => mWh c body n env2 B2
      | .bk env2 B2 => .nx env2 B2
      | .ret d B2 => .ret d B2
      | .exc c as e2 B2 => .exc c as e2 B2
      | .bad => .bad) else .nx env B1
theorem mWh_more {c : EnvM → Bag → Res Bool} {body : EnvM → Bag → SRes} : ∀ (n : Nat) (env : EnvM) (B : Bag), mWh c body n env B ≠ .bad → mWh c body (n + 1) env B = mWh c body n env B
  | 0, _, _, h => absurd rfl h
  | n + 1, env, B, h => by
    rw [mWh] at h
    rw [mWh, mWh.eq_2 c body env B n]
    cases e : c env B with
    | ok k B1 =>
      rw [e] at h
      simp only [Res.s] at h ⊢
      by_cases hk : k = true
      · rw [if_pos hk] at h
        rw [if_pos hk, if_pos hk]
        cases z : body env B1 with
        | nx env2 B2 =>
          rw [z] at h
          exact mWh_more n env2 B2 h
        | ct env2 B2 =>
          rw [z] at h
          exact mWh_more n env2 B2 h
        | bk env2 B2 => rfl
        | ret d B2 => rfl
        | exc c as B2 => rfl
        | bad => rfl
      · rw [if_neg hk, if_neg hk]
    | exc c as B1 => rfl
    | bad => rfl
theorem mWh_le {c : EnvM → Bag → Res Bool} {body : EnvM → Bag → SRes} {n m : Nat} {env : EnvM} {B : Bag} (h : mWh c body n env B ≠ .bad) (hl : n ≤ m) : mWh c body m env B = mWh c body n env B := by
  induction hl with
  | refl => rfl
  | step _ ih => rw [mWh_more _ env B (by rw [ih]; exact h), ih]
open Classical in
noncomputable def mWhile (c : EnvM → Bag → Res Bool) (body : EnvM → Bag → SRes) : EnvM → Bag → SRes := fun env B => if h : ∃ n, mWh c body n env B ≠ .bad then mWh c body h.choose env B else .bad
theorem mWhile_at {c : EnvM → Bag → Res Bool} {body : EnvM → Bag → SRes} {n : Nat} {env : EnvM} {B : Bag} (h : mWh c body n env B ≠ .bad) : mWhile c body env B = mWh c body n env B := by
  have hx : ∃ n, mWh c body n env B ≠ .bad := ⟨n, h⟩
  unfold mWhile
  rw [dif_pos hx]
  rcases Nat.le_total n hx.choose with l | l
  · exact mWh_le h l
  · exact (mWh_le hx.choose_spec l).symm
theorem mWhile_of {c : EnvM → Bag → Res Bool} {body : EnvM → Bag → SRes} {env : EnvM} {B : Bag} (h : mWhile c body env B ≠ .bad) : ∃ n, mWh c body n env B ≠ .bad ∧ mWhile c body env B = mWh c body n env B := by
  unfold mWhile at h
  by_cases hx : ∃ n, mWh c body n env B ≠ .bad
  · exact ⟨hx.choose, hx.choose_spec, mWhile_at hx.choose_spec⟩
  · rw [dif_neg hx] at h; exact absurd rfl h
/-- one turn more -/
theorem mWhile_end {c : EnvM → Bag → Res Bool} {body : EnvM → Bag → SRes} {env : EnvM} {B B1 : Bag} (h : c env B = .ok false B1) : mWhile c body env B = .nx env B1 := by
  have e : mWh c body 1 env B = .nx env B1 := by
    rw [mWh, h]
    rfl
  rw [mWhile_at (n := 1) (by rw [e]; exact fun z => by cases z), e]
theorem mWhile_turn {c : EnvM → Bag → Res Bool} {body : EnvM → Bag → SRes} {env env2 : EnvM} {B B1 B2 : Bag} (h : c env B = .ok true B1) (hb : body env B1 = .nx env2 B2) (h2 : mWhile c body env2 B2 ≠ .bad) : mWhile c body env B = mWhile c body env2 B2 := by
  obtain ⟨n, h3, h4⟩ := mWhile_of h2
  have e : mWh c body (n + 1) env B = mWh c body n env2 B2 := by
    rw [mWh, h]
    simp only [Res.s, if_true, hb]
  rw [mWhile_at (n := n + 1) (by rw [e]; exact h3), e, h4]
theorem mWhile_ret {c : EnvM → Bag → Res Bool} {body : EnvM → Bag → SRes} {env : EnvM} {B B1 B2 : Bag} {d : PD} (h : c env B = .ok true B1) (hb : body env B1 = .ret d B2) : mWhile c body env B = .ret d B2 := by
  have e : mWh c body 1 env B = .ret d B2 := by
    rw [mWh, h]
    simp only [Res.s, if_true, hb]
  rw [mWhile_at (n := 1) (by rw [e]; exact fun z => by cases z), e]
theorem sd_while {c : Expr} {body : List Stmt} {tc : TT} {tb : TS} {mc : EnvM → Bag → Res Bool} {mb : EnvM → Bag → SRes} {pos : Pos} (hp : PassesOwn (model X.prog X.w) X.A X.env X.xe) (hc : TD X W c tc mc) (hb : SDs X W body tb mb) : SD X W (.While c body [] pos) (tWhile tc tb) (mWhile mc mb) := by
  refine ⟨ps_while hp hc.pe hb.pe, fun w G0 H0 σ env G H B D R h => ?_⟩
  have hn : mWhile mc mb env B ≠ .bad := fun e => by rw [e] at h; exact h
  obtain ⟨n, _, e⟩ := mWhile_of hn
  rw [e] at h
  refine ⟨fun m σ H => ∃ env G' B, Rel X.K w G0 H0 σ env G' H B ∧ PostS X.K X.mg w G0 H0 G' W D (mWh mc mb m env B), ⟨n, env, G, B, R, h⟩, ?_⟩
  rintro m σ2 H2 ⟨env2, G2, B2, R2, p2⟩
  cases m with
  | zero => exact (show False from p2).elim
  | succ m =>
    rw [mWh] at p2
    refine hc.sem w G0 H0 σ2 env2 G2 H2 B2 _ R2 (PostS.bind R2 (Sub.refl _) p2 fun k B3 v G3 H3 s3 o3 d3 h3 => ?_)
    subst d3
    have h3 := PostS.sub s3.exG h3
    cases v with
    | false => exact iteF (h3 σ2 G3 H3 (R2.step s3 o3) (Sub.refl _))
    | true =>
      refine iteT ⟨fun σ' H' => ∃ env G' B, Rel X.K w G0 H0 σ' env G' H' B ∧ PostS X.K X.mg w G0 H0 G' W D (mWh mc mb m env B), fun σ' H' q => ⟨m, Nat.lt_succ_self m, q⟩, ?_⟩
      refine hb.sem w G0 H0 σ2 env2 G3 H3 B3 _ (R2.step s3 o3) ?_
      rw [if_pos rfl] at h3
      cases z : mb env2 B3 with
      | nx env4 B4 => simp only [z] at h3; exact fun σ' G' H' R' s' => ⟨env4, G', B4, R', PostS.sub s' h3⟩
      | ct env4 B4 => simp only [z] at h3; exact fun σ' G' H' R' s' => ⟨env4, G', B4, R', PostS.sub s' h3⟩
      | bk env4 B4 => simp only [z] at h3; exact fun σ' G' H' R' s' => h3 σ' G' H' R' s'
      | ret d B4 => simp only [z] at h3; exact h3
      | exc c as e4 B4 => simp only [z] at h3; exact h3
      | bad => simp only [z] at h3; exact h3.elim
end
end DL
set_option Elab.async false
set_option linter.all false
set_option maxRecDepth 100000
set_option maxHeartbeats 2000000
/-! ZL: list(zip(a, b)) of two lists or of two tuples of one length: a new list of new pairs. -/
namespace ZL
open PySem
theorem zip_len0 : typeLookup (.type "zip") "__len__" = pure none := by rw [typeLookup_type, builtinLookup_eq_fast]; kernel_rfl
theorem zip_hint0 : typeLookup (.type "zip") "__length_hint__" = pure none := by rw [typeLookup_type, builtinLookup_eq_fast]; kernel_rfl
section
variable {prog : Program} {w : World} {A : Around} {E : Value → Shared → Prop} {s : Shared}
/-! ### next of a zip of tuples whose first pair is still out -/
theorem nextT {z TI TO T i1 i2 l1 l2 : Addr} {f : Bool} {oT : Obj} {k1 k2 : Nat} {xs ys : Array Value} {x y : Value} {Q : Option Value → Shared → Prop} (D : ZipApart z TI TO i1 i2 l1 l2)
    (hz : IsZipHeld s.heap z TI TO T f) (hT : s.heap.get? T = some oT) (hI : IsPair s.heap TI (.ref i1) (.ref i2)) (h1 : s.heap.IsTupleIter i1 l1 k1) (h2 : s.heap.IsTupleIter i2 l2 k2) (g1 : s.heap.IsTuple l1 xs) (g2 : s.heap.IsTuple l2 ys)
    (hx : xs[k1]? = some x) (hy : ys[k2]? = some y)
    (hQ : ∀ h', IsZipHeld h' z TI TO T true → h'.IsTupleIter i1 l1 (k1 + 1) ∧ h'.IsTupleIter i2 l2 (k2 + 1) → IsPair h' s.heap.objs.size x y → (∀ c o, c ≠ z ∧ c ≠ i1 ∧ c ≠ i2 → s.heap.get? c = some o → h'.get? c = some o) → Q (some (.ref s.heap.objs.size)) { s with heap := h' }) :
    wpAny (model prog w) A (pyNext (.ref z)) Q E s := by
  have ty : s.TypeIs (.ref z) "zip" := ⟨_, hz, rfl⟩
  have core : wpAny (model prog w) A.in1 (Builtin.«zip.__next__» ⟨[.ref z], []⟩) (fun fin s' => ∃ v, fin = .done (.ret v) ∧ Q (some v) s') (fun _ _ => False) s := by
    show wpAny _ _ (field (.ref z) 2 >>= _) _ _ _
    refine wpAny_bind (wpAny_field hz rfl (x := .bool false) rfl ?_); show wpAny _ _ (field (.ref z) 3 >>= _) _ _ _
    refine wpAny_bind (wpAny_field hz rfl (x := .ref TI) rfl ?_); refine wpAny_bind (wpAny_seqItems hI rfl ?_)
    show wpAny _ _ (Builtin.SmallTypes.ownedTupleIsFree (.ref z) >>= _) _ _ _
    refine wpAny_bind (wpAny_tupleHeld_zip hz hT fun ha za sa => ?_); simp only [Bool.false_eq_true, if_false]
    refine wpAny_bind ?_; rw [← Array.forIn_toList]; simp only [List.forIn_cons, List.forIn_nil]
    refine wpAny_bind (wpAny_bind (wpAny_holding ?_)); show wpAny _ _ (Builtin.SmallTypes.nextOf (.ref i1) >>= _) _ _ _
    refine wpAny_bind (RZ.nextOf_tuple_item (s := { s with heap := ha }) (h1.extBut sa.extBut D.i1z) (g1.extBut sa.extBut D.l1z) hx fun hb ib sb => wpAny_pure (wpAny_pure ?_))
    refine wpAny_bind (wpAny_bind (wpAny_holding ?_)); show wpAny _ _ (Builtin.SmallTypes.nextOf (.ref i2) >>= _) _ _ _
    refine wpAny_bind (RZ.nextOf_tuple_item (s := { s with heap := hb }) ((h2.extBut sa.extBut D.i2z).extBut sb.extBut D.i12.symm) ((g2.extBut sa.extBut D.l2z).extBut sb.extBut D.l2i1) hy fun hc ic sc => wpAny_pure (wpAny_pure (wpAny_pure ?_)))
    show wpAny _ _ (newTuple [x, y] >>= _) _ _ _
    refine wpAny_bind (wpAny_newTuple ?_)
    have es : hc.objs.size = s.heap.objs.size := by rw [sc.1, sb.1, sa.1]
    have zc : IsZipHeld hc z TI TO T true := sc.extBut _ _ D.i2z.symm (sb.extBut _ _ D.i1z.symm za)
    have kc : ∀ c o, c ≠ z ∧ c ≠ i1 ∧ c ≠ i2 → s.heap.get? c = some o → hc.get? c = some o := fun c o n e => sc.extBut _ _ n.2.2 (sb.extBut _ _ n.2.1 (sa.extBut _ _ n.1 e))
    have jc : hc.IsTupleIter i1 l1 (k1 + 1) := ib.extBut sc.extBut D.i12
    have hp : IsPair (hc.push { cls := .type "tuple", data := .seq #[x, y] }) hc.objs.size x y := Heap.get?_push_size _ rfl
    refine wpAny_pure ⟨_, rfl, ?_⟩
    show Q (some (.ref hc.objs.size)) _
    rw [es] at hp ⊢
    exact (hQ _ (Heap.get?_push_of_some _ zc) ⟨jc.at fun o e => Heap.get?_push_of_some _ e, ic.at fun o e => Heap.get?_push_of_some _ e⟩ hp fun c o n e => Heap.get?_push_of_some _ (kc c o n e))
  unfold pyNext
  exact wpAny_bind (wpAny_attempt (wpAny_callSpecial?_slot (name := Str.ofString "__next__") ty F.slot_zip_next (wpAny_call_entry F.slot_zip_next ty F.entry_zip_next (wpAny_mono core (fun fin s' ⟨v, h, q⟩ => ⟨v, h, wpAny_pure q⟩) fun _ _ q => q.elim) (F.args_zip_next_1 _))))
theorem endT {z TI TO T i1 i2 l1 l2 : Addr} {f : Bool} {oT : Obj} {k1 k2 : Nat} {xs ys : Array Value} {Q : Option Value → Shared → Prop} (hh : A.handled = none) (D : ZipApart z TI TO i1 i2 l1 l2)
    (hz : IsZipHeld s.heap z TI TO T f) (hT : s.heap.get? T = some oT) (hI : IsPair s.heap TI (.ref i1) (.ref i2)) (h1 : s.heap.IsTupleIter i1 l1 k1) (h2 : s.heap.IsTupleIter i2 l2 k2) (g1 : s.heap.IsTuple l1 xs) (g2 : s.heap.IsTuple l2 ys)
    (hx : xs[k1]? = none) (hQ : ∀ h', (∀ c o, c ≠ z ∧ c ≠ i1 ∧ c ≠ i2 → s.heap.get? c = some o → h'.get? c = some o) → Q none { s with heap := h' }) : wpAny (model prog w) A (pyNext (.ref z)) Q E s := by
  have ty : s.TypeIs (.ref z) "zip" := ⟨_, hz, rfl⟩
  have core : wpAny (model prog w) A.in1 (Builtin.«zip.__next__» ⟨[.ref z], []⟩) (fun fin s' => ∃ v, fin = .done (.ret v) ∧ False)
      (fun e s' => ∃ ea h', e = .ref ea ∧ s' = { s with heap := h' } ∧ (∀ c o, c ≠ z ∧ c ≠ i1 ∧ c ≠ i2 → s.heap.get? c = some o → h'.get? c = some o) ∧ ∃ o, h'.get? ea = some o ∧ o.cls = .type "StopIteration") s := by
    show wpAny _ _ (field (.ref z) 2 >>= _) _ _ _
    refine wpAny_bind (wpAny_field hz rfl (x := .bool false) rfl ?_); show wpAny _ _ (field (.ref z) 3 >>= _) _ _ _
    refine wpAny_bind (wpAny_field hz rfl (x := .ref TI) rfl ?_); refine wpAny_bind (wpAny_seqItems hI rfl ?_)
    show wpAny _ _ (Builtin.SmallTypes.ownedTupleIsFree (.ref z) >>= _) _ _ _
    refine wpAny_bind (wpAny_tupleHeld_zip hz hT fun ha za sa => ?_); simp only [Bool.false_eq_true, if_false]
    refine wpAny_bind ?_; rw [← Array.forIn_toList]; simp only [List.forIn_cons, List.forIn_nil]
    refine wpAny_bind (wpAny_bind (wpAny_holding ?_)); show wpAny _ _ (Builtin.SmallTypes.nextOf (.ref i1) >>= _) _ _ _
    refine wpAny_bind (RZ.nextOf_tuple_end (s := { s with heap := ha }) hh (h1.extBut sa.extBut D.i1z) (g1.extBut sa.extBut D.l1z) hx fun hb e sb he => ?_)
    exact ⟨e, hb, rfl, rfl, fun c o n q => sb _ _ n.2.1 (sa.extBut _ _ n.1 q), he⟩
  unfold pyNext
  refine wpAny_bind (wpAny_attempt (wpAny_callSpecial?_slot (name := Str.ofString "__next__") ty F.slot_zip_next (wpAny_call_entry F.slot_zip_next ty F.entry_zip_next (wpAny_mono core (fun fin s' ⟨v, h, q⟩ => q.elim) fun e s' q => ?_) (F.args_zip_next_1 _))))
  obtain ⟨ea, h', rfl, rfl, hk, o, ho, hc⟩ := q
  refine wpAny_bind (wpAny_isInstance (T := "StopIteration") (b := true) ⟨o, ho, hc⟩ isSubtype_stop ?_)
  exact wpAny_pure (hQ _ hk)
end

/-! ### the loop that fills the list -/
section
variable {prog : Program} {w : World} {A : Around} {R : Result → Shared → Prop}
theorem fill {I S : Addr} {n : Nat} (J : Nat → Heap → List Addr → Prop) (FP : List Addr) (hSF : S ∉ FP) (hn : n ≤ sizeLine) (res : Value)
    (keep : ∀ k h h' Ts, J k h Ts → (∀ b o, b ≠ S → h.get? b = some o → h'.get? b = some o) → J k h' Ts)
    (item : ∀ (k : Nat) (s : Shared) (Ts : List Addr) (Q : Option Value → Shared → Prop) (E : Value → Shared → Prop), k < n → J k s.heap Ts → (∃ o, s.heap.get? S = some o) → (∀ T h', J (k + 1) h' (Ts ++ [T]) → (∀ b o, b ∉ FP → s.heap.get? b = some o → h'.get? b = some o) → Q (some (.ref T)) { s with heap := h' }) →
      wpAny (model prog w) A.in1 (pyNext (.ref I)) Q E s)
    (done : ∀ (s : Shared) (Ts : List Addr) (Q : Option Value → Shared → Prop) (E : Value → Shared → Prop), J n s.heap Ts → (∀ h', (∀ b o, b ∉ FP → s.heap.get? b = some o → h'.get? b = some o) → Q none { s with heap := h' }) → wpAny (model prog w) A.in1 (pyNext (.ref I)) Q E s) :
    ∀ (k i : Nat) (s : Shared) (Ts : List Addr) (c : Nat), n - i = k → i ≤ n → Ts.length = i → J i s.heap Ts → s.heap.get? S = some { cls := .type "list", dict := none, data := .seq (Ts.map Value.ref).toArray c, slots := #[] } →
    (∀ h1 h' Ts' c', J n h1 Ts' → Ts'.length = n → (∀ b o, b ∉ FP → b ≠ S → s.heap.get? b = some o → h1.get? b = some o) → (∀ b o, b ∉ FP → h1.get? b = some o → h'.get? b = some o) → h'.get? S = some { cls := .type "list", dict := none, data := .seq (Ts'.map Value.ref).toArray c', slots := #[] } → R (.ok (.ret res)) { s with heap := h' }) →
    codeAny (model prog w) A (.builtin "list.extend.loop" ⟨[.ref S, .ref I, res], []⟩) R s := by
  intro k
  induction k with
  | zero =>
    intro i s Ts c hk hi hl hj hS hR
    have e : i = n := by omega
    subst e
    refine codeAny_builtin F.entry_extend_loop ?_
    rw [Around.under_plainId F.plain_extend_loop _]
    show wpAny _ A.in1 (pyNext (.ref I) >>= _) _ _ s
    refine wpAny_bind (done s Ts _ _ hj fun h' k' => ?_)
    exact wpAny_pure (hR s.heap h' Ts c hj hl (fun _ _ _ _ q => q) k' (k' S _ hSF hS))
  | succ k ih =>
    intro i s Ts c hk hi hl hj hS hR
    refine codeAny_builtin F.entry_extend_loop ?_
    rw [Around.under_plainId F.plain_extend_loop _]
    show wpAny _ A.in1 (pyNext (.ref I) >>= _) _ _ s
    refine wpAny_bind (item i s Ts _ _ (by omega) hj ⟨_, hS⟩ fun T h' j' k' => ?_)
    have hS' := k' S _ hSF hS
    show wpAny _ A.in1 (updateSeq S (·.push (.ref T)) >>= _) _ _ _
    refine wpAny_bind ?_
    have sz : (Ts.map Value.ref).toArray.size = i := by rw [List.size_toArray, List.length_map, hl]
    have ep : (Ts.map Value.ref).toArray.push (.ref T) = ((Ts ++ [T]).map Value.ref).toArray := by simp
    refine wpAny_updateSeq hS' rfl (wpAny_pure ⟨plainId_quiet F.plain_extend_loop _, ?_⟩) (by rw [sz]; omega) (by show ((Ts.map Value.ref).toArray.push (.ref T)).size ≤ sizeLine + 1; rw [Array.size_push, sz]; omega)
    have up : ∀ b o, b ≠ S → h'.get? b = some o → (h'.update S (Obj.mapSeq (·.push (.ref T)))).get? b = some o := fun b o hb q => (Heap.get?_update_other _ _ (Ne.symm hb)).trans q
    have hS2 : (h'.update S (Obj.mapSeq (·.push (.ref T)))).get? S = some _ := Heap.get?_update_self _ hS' rfl
    refine ih (i + 1) { s with heap := h'.update S (Obj.mapSeq (·.push (.ref T))) } (Ts ++ [T]) _ (by omega) (by omega) (by rw [List.length_append, hl]; rfl) (keep _ _ _ _ j' up) (by rw [← ep]; exact hS2) fun h1 h2 Ts' c' a1 a2 a3 a4 a5 => ?_
    exact hR h1 h2 Ts' c' a1 a2 (fun b o n1 n2 q => a3 b o n1 n2 (up b o n2 (k' b o n1 q))) a4 a5
end

/-! ### list(z) -/
section
variable {prog : Program} {w : World} {A : Around} {E : Value → Shared → Prop} {s : Shared}
theorem ZL_iter {z : Addr} {o : Obj} {Q : Value → Shared → Prop} (hz : s.heap.get? z = some o) (hc : o.cls = .type "zip") (h : Q (.ref z) s) : wpAny (model prog w) A (pyIter (.ref z)) Q E s := by
  have ty : s.TypeIs (.ref z) "zip" := ⟨o, hz, hc⟩
  refine wpAny_pyIter_slot ty F.slot_zip_iter (wpAny_call_entry F.slot_zip_iter ty F.entry_zip_iter ?_ (F.args_zip_iter_1 _))
  exact wpAny_pure ⟨_, rfl, "zip", _, ty, F.slot_zip_next.lookup, h⟩
end
section
variable {prog : Program} {w : World} {A : Around} {E : Value → Shared → Prop} {s : Shared}
theorem list_of {z : Addr} {n : Nat} {oz : Obj} {Q : Value → Shared → Prop} (J : Nat → Heap → List Addr → Prop) (FP : List Addr) (hn : n ≤ sizeLine) (hF : ∀ b ∈ FP, b < s.heap.objs.size) (hz : ∀ h Ts, J 0 h Ts → ∃ o, h.get? z = some o ∧ o.cls = .type "zip") (hzF : z ∈ FP)
    (keep : ∀ k h h' Ts, J k h Ts → (∀ b o, b ≠ s.heap.objs.size → h.get? b = some o → h'.get? b = some o) → J k h' Ts)
    (item : ∀ (k : Nat) (s' : Shared) (Ts : List Addr) (Q : Option Value → Shared → Prop) (E : Value → Shared → Prop), k < n → J k s'.heap Ts → (∃ o, s'.heap.get? s.heap.objs.size = some o) → (∀ T h', J (k + 1) h' (Ts ++ [T]) → (∀ b o, b ∉ FP → s'.heap.get? b = some o → h'.get? b = some o) → Q (some (.ref T)) { s' with heap := h' }) →
      wpAny (model prog w) A.in1.in1 (pyNext (.ref z)) Q E s')
    (done : ∀ (s' : Shared) (Ts : List Addr) (Q : Option Value → Shared → Prop) (E : Value → Shared → Prop), J n s'.heap Ts → (∀ h', (∀ b o, b ∉ FP → s'.heap.get? b = some o → h'.get? b = some o) → Q none { s' with heap := h' }) → wpAny (model prog w) A.in1.in1 (pyNext (.ref z)) Q E s')
    (hj : J 0 s.heap [])
    (hQ : ∀ h1 h' Ts c', J n h1 Ts → Ts.length = n → (∀ b o, b ∉ FP → s.heap.get? b = some o → h1.get? b = some o) → (∀ b o, b ∉ FP → h1.get? b = some o → h'.get? b = some o) → h'.get? s.heap.objs.size = some { cls := .type "list", dict := none, data := .seq (Ts.map Value.ref).toArray c', slots := #[] } → Q (.ref s.heap.objs.size) { s with heap := h' }) :
    wpAny (model prog w) A (call (.type "list") [.ref z]) Q E s := by
  have hSF : s.heap.objs.size ∉ FP := fun m => Nat.lt_irrefl _ (hF _ m)
  refine callType_codes (Q₁ := fun obj s₁ => obj = .ref s.heap.objs.size ∧ s₁ = { s with heap := s.heap.push { cls := .type "list", data := .seq #[] } }) F.called_list (F.typeCall_list_1 _) F.entry_list_init (code_list_new _ ⟨rfl, rfl⟩) fun obj s₁ h₁ => ?_
  obtain ⟨rfl, rfl⟩ := h₁
  have hS0 : (s.heap.push { cls := .type "list", data := .seq #[] }).get? s.heap.objs.size = some { cls := .type "list", data := .seq #[] } := Heap.get?_push_size _ rfl
  refine ⟨⟨_, hS0, rfl⟩, F.args_list_init_2 _ _, ?_⟩
  generalize hsv : s.heap.objs.size = S at *
  have old : ∀ b o, s.heap.get? b = some o → (s.heap.push { cls := .type "list", data := .seq #[] }).get? b = some o := fun b o q => Heap.get?_push_of_some _ q
  generalize hg0 : s.heap.push { cls := .type "list", data := .seq #[] } = g0 at *
  show wpAny _ _ (do let old ← Builtin.List.listItems (.ref S); Builtin.List.listUpdate (.ref S) (fun _ => #[]); letGo old.toList.reverse; Builtin.List.listExtendWith (.ref S) (.ref z) .none) _ _ _
  refine wpAny_bind ?_
  unfold Builtin.List.listItems
  refine wpAny_bind (wpAny_seqItems hS0 rfl (wpAny_pure ?_))
  show wpAny _ _ (updateSeq S (fun _ => #[]) >>= fun _ => letGo (#[] : Array Value).toList.reverse >>= fun _ => Builtin.List.listExtendWith (.ref S) (.ref z) .none) _ _ _
  refine wpAny_bind (wpAny_updateSeq hS0 rfl ?_)
  have hS1 := Heap.get?_update_self (Obj.mapSeq (fun _ => (#[] : Array Value))) hS0 rfl
  have o1 : ∀ b o, b ≠ S → g0.get? b = some o → (g0.update S (Obj.mapSeq (fun _ => (#[] : Array Value)))).get? b = some o := fun b o hb q => (Heap.get?_update_other _ _ (Ne.symm hb)).trans q
  generalize hg1 : g0.update S (Obj.mapSeq (fun _ => (#[] : Array Value))) = g1 at *
  refine wpAny_bind (wpAny_letGo ?_)
  have hj1 : J 0 g1 [] := keep 0 _ _ _ (keep 0 _ _ _ hj fun b o _ q => old b o q) o1
  have tz : ∀ tk, (⟨g1, s.gens, s.drawn, tk, s.os⟩ : Shared).TypeIs (.ref z) "zip" := fun tk => let ⟨o, h1, h2⟩ := hz g1 [] hj1; ⟨o, h1, h2⟩
  have nSz : S ≠ z := fun q => hSF (q ▸ hzF)
  have b1 : Builtin.List.listSameRef (.ref S) (.ref z) = false := by simp [Builtin.List.listSameRef, nSz]
  have b2 : (Value.type "zip" == Value.type "list") = false := by decide
  have b3 : (Value.type "zip" == Value.type "tuple") = false := by decide
  unfold Builtin.List.listExtendWith
  refine wpAny_bind (wpAny_typeOf (tz _) ?_)
  simp only [b1, b2, b3, Bool.or_false, Bool.false_eq_true, if_false]
  obtain ⟨oz', hoz, hcz⟩ := hz g1 [] hj1
  refine wpAny_bind ?_
  show wpAny _ _ (pyIter (.ref z)) _ _ _
  have iter : ∀ (Q' : Value → Shared → Prop) (E' : Value → Shared → Prop), Q' (.ref z) (⟨g1, s.gens, s.drawn, s.toks, s.os⟩ : Shared) → wpAny (model prog w) A.in1.in1 (pyIter (.ref z)) Q' E' (⟨g1, s.gens, s.drawn, s.toks, s.os⟩ : Shared) := by
    intro Q' E' q
    exact ZL_iter hoz hcz q
  refine iter _ _ ?_
  refine wpAny_bind (wpAny_holding ?_)
  unfold Builtin.List.listLengthHint
  refine wpAny_bind (wpAny_specialOf (tz _) zip_len0 ?_)
  show wpAny _ _ (specialOf (Value.ref z) (Str.ofString "__length_hint__") >>= _) _ _ _
  refine wpAny_bind (wpAny_specialOf (tz _) zip_hint0 (wpAny_pure ?_))
  show wpAny _ _ (rule "list.extend.makes-room" >>= fun _ => Builtin.List.listTouch (.ref S) >>= fun _ => again (.builtin "list.extend.loop" ⟨[.ref S, .ref z, .none], []⟩)) _ _ _
  refine wpAny_bind (wpAny_rule (wpAny_bind ?_))
  show wpAny _ _ (updateSeq S (·.push .none) >>= fun _ => updateSeq S (·.pop)) _ _ _
  refine wpAny_bind (wpAny_updateSeq hS1 rfl ?_)
  have hS2 := Heap.get?_update_self (Obj.mapSeq (·.push Value.none)) hS1 rfl
  refine wpAny_updateSeq (hz := by seq_fits) hS2 rfl ?_
  have hS3 := Heap.get?_update_self (Obj.mapSeq (·.pop)) hS2 rfl
  have o2 : ∀ b o, b ≠ S → g1.get? b = some o → ((g1.update S (Obj.mapSeq (·.push Value.none))).update S (Obj.mapSeq (·.pop))).get? b = some o := fun b o hb q => (Heap.get?_update_other _ _ (Ne.symm hb)).trans ((Heap.get?_update_other _ _ (Ne.symm hb)).trans q)
  refine wpAny_pure ⟨plainId_quiet F.plain_extend_loop _, fill (S := S) J FP hSF hn .none keep item done n 0 _ [] _ rfl (Nat.zero_le _) rfl (keep 0 _ _ _ hj1 o2) hS3 fun h1 h' Ts c' a1 a2 a3 a4 a5 => ?_⟩
  exact ⟨rfl, hQ h1 h' Ts c' a1 a2 (fun b o nb q => a3 b o nb (fun e => by subst e; subst hsv; exact absurd (Heap.lt_size q) (Nat.lt_irrefl _)) (o2 b o (fun e => by subst e; subst hsv; exact absurd (Heap.lt_size q) (Nat.lt_irrefl _)) (o1 b o (fun e => by subst e; subst hsv; exact absurd (Heap.lt_size q) (Nat.lt_irrefl _)) (old b o q)))) a4 a5⟩
end
/-! ### list(zip(a, b)) as an expression -/
section
open L2
/-- the pairs made so far, the zip's own state -/
def JZ (it2 : Heap → Nat → Prop) (src : Heap → Prop) (z TI TO i1 i2 S : Addr) (xs ys : Array Value) (k : Nat) (h : Heap) (Ts : List Addr) : Prop :=
  IsPair h TI (.ref i1) (.ref i2) ∧ it2 h k ∧ src h ∧ ((k = 0 ∧ IsZip h z TI TO .none ∧ ∃ a b, IsPair h TO a b) ∨ (0 < k ∧ ∃ f T oT, IsZipHeld h z TI TO T f ∧ h.get? T = some oT ∧ T ∉ [z, TO, i1, i2] ∧ T ≠ S)) ∧ Ts.length = k ∧
    ∀ (j : Nat) (T : Addr), Ts[j]? = some T → T ∉ [z, TO, i1, i2] ∧ T ≠ S ∧ z < T ∧ ∃ x y, xs[j]? = some x ∧ ys[j]? = some y ∧ IsPair h T x y
theorem get_snoc {α : Type} {l : List α} {a b : α} {j : Nat} (h : (l ++ [a])[j]? = some b) : (j < l.length ∧ l[j]? = some b) ∨ (j = l.length ∧ b = a) := by
  rw [List.getElem?_append] at h
  split at h
  · exact .inl ⟨by assumption, h⟩
  · rename_i q
    have q1 := (List.getElem?_eq_some_iff.mp h).1
    rw [List.length_singleton] at q1
    have q2 : j - l.length = 0 := by omega
    rw [q2] at h
    exact .inr ⟨by omega, by cases h; rfl⟩
structure Kit (prog : Program) (w : World) (A : Around) (z TI TO i1 i2 : Addr) (xs ys : Array Value) (it2 : Heap → Nat → Prop) (src : Heap → Prop) : Prop where
  itk : ∀ h h' k, it2 h k → (∀ o, h.get? i1 = some o → h'.get? i1 = some o) → (∀ o, h.get? i2 = some o → h'.get? i2 = some o) → it2 h' k
  srck : ∀ h h', src h → (∀ b o, b ∉ [z, TO, i1, i2] → b < z → h.get? b = some o → h'.get? b = some o) → src h'
  item0 : ∀ (s : Shared) (x y a b : Value) (Q : Option Value → Shared → Prop) (E : Value → Shared → Prop), IsZip s.heap z TI TO .none → IsPair s.heap TI (.ref i1) (.ref i2) → IsPair s.heap TO a b → it2 s.heap 0 → src s.heap → xs[0]? = some x → ys[0]? = some y →
    (∀ h', IsZip h' z TI TO (rawInt s.heap.objs.size) → it2 h' 1 → IsPair h' s.heap.objs.size x y → (∀ c o, c ≠ z → c ≠ TO → c ≠ i1 → c ≠ i2 → s.heap.get? c = some o → h'.get? c = some o) → Q (some (.ref s.heap.objs.size)) { s with heap := h' }) → wpAny (model prog w) A (pyNext (.ref z)) Q E s
  itemH : ∀ (s : Shared) (T : Addr) (f : Bool) (oT : Obj) (k : Nat) (x y : Value) (Q : Option Value → Shared → Prop) (E : Value → Shared → Prop), IsZipHeld s.heap z TI TO T f → s.heap.get? T = some oT → IsPair s.heap TI (.ref i1) (.ref i2) → it2 s.heap k → src s.heap → xs[k]? = some x → ys[k]? = some y →
    (∀ h', IsZipHeld h' z TI TO T true → it2 h' (k + 1) → IsPair h' s.heap.objs.size x y → (∀ c o, c ≠ z → c ≠ i1 → c ≠ i2 → s.heap.get? c = some o → h'.get? c = some o) → Q (some (.ref s.heap.objs.size)) { s with heap := h' }) → wpAny (model prog w) A (pyNext (.ref z)) Q E s
  end0 : ∀ (s : Shared) (a b : Value) (Q : Option Value → Shared → Prop) (E : Value → Shared → Prop), IsZip s.heap z TI TO .none → IsPair s.heap TI (.ref i1) (.ref i2) → IsPair s.heap TO a b → it2 s.heap 0 → src s.heap → xs[0]? = none → ys[0]? = none →
    (∀ h', (∀ c o, c ≠ z → c ≠ TO → c ≠ i1 → c ≠ i2 → s.heap.get? c = some o → h'.get? c = some o) → Q none { s with heap := h' }) → wpAny (model prog w) A (pyNext (.ref z)) Q E s
  endH : ∀ (s : Shared) (T : Addr) (f : Bool) (oT : Obj) (k : Nat) (Q : Option Value → Shared → Prop) (E : Value → Shared → Prop), IsZipHeld s.heap z TI TO T f → s.heap.get? T = some oT → IsPair s.heap TI (.ref i1) (.ref i2) → it2 s.heap k → src s.heap → xs[k]? = none → ys[k]? = none →
    (∀ h', (∀ c o, c ≠ z → c ≠ i1 → c ≠ i2 → s.heap.get? c = some o → h'.get? c = some o) → Q none { s with heap := h' }) → wpAny (model prog w) A (pyNext (.ref z)) Q E s
section
variable {prog : Program} {w : World} {A : Around} {E : Value → Shared → Prop} {s : Shared}
theorem list_zip {z TI TO i1 i2 : Addr} {xs ys : Array Value} {n : Nat} {it2 : Heap → Nat → Prop} {src : Heap → Prop} {Q : Value → Shared → Prop} (K : Kit prog w A.in1.in1 z TI TO i1 i2 xs ys it2 src) (hx : xs.size = n) (hy : ys.size = n) (hn : n ≤ sizeLine)
    (hz : IsZip s.heap z TI TO .none) (hI : IsPair s.heap TI (.ref i1) (.ref i2)) (hO : ∃ a b, IsPair s.heap TO a b) (hit : it2 s.heap 0) (hs : src s.heap) (l1 : i1 < s.heap.objs.size) (l2 : i2 < s.heap.objs.size) (nI : TI ∉ [z, TO, i1, i2])
    (hQ : ∀ (h' : Heap) (Ts : List Addr) (c' : Nat), Ts.length = n → (∀ b o, b ∉ [z, TO, i1, i2] → s.heap.get? b = some o → h'.get? b = some o) → (∀ (j : Nat) (T : Addr), Ts[j]? = some T → z < T ∧ ∃ x y, xs[j]? = some x ∧ ys[j]? = some y ∧ IsPair h' T x y) →
      h'.get? s.heap.objs.size = some { cls := .type "list", dict := none, data := .seq (Ts.map Value.ref).toArray c', slots := #[] } → Q (.ref s.heap.objs.size) { s with heap := h' }) :
    wpAny (model prog w) A (call (.type "list") [.ref z]) Q E s := by
  have lz := Heap.lt_size hz
  have lO : TO < s.heap.objs.size := let ⟨_, _, q⟩ := hO; Heap.lt_size q
  have lI := Heap.lt_size hI
  have nz : ∀ b ∈ [z, TO, i1, i2], b < s.heap.objs.size := fun b hb => by
    simp only [List.mem_cons, List.not_mem_nil, or_false] at hb
    rcases hb with rfl | rfl | rfl | rfl <;> assumption
  have nS : ∀ b ∈ [z, TO, i1, i2], b ≠ s.heap.objs.size := fun b hb e => absurd (nz b hb) (by rw [e]; exact Nat.lt_irrefl _)
  have get : ∀ (k : Nat), k < n → ∃ x y, xs[k]? = some x ∧ ys[k]? = some y := fun k hk => ⟨xs[k]'(by omega), ys[k]'(by omega), by simp, by simp⟩
  refine list_of (z := z) (n := n) (oz := { cls := .none, data := .fields #[] }) (JZ it2 src z TI TO i1 i2 s.heap.objs.size xs ys) [z, TO, i1, i2] hn nz (fun h Ts j => ?_) List.mem_cons_self (fun k h h' Ts j kp => ?_) (fun k s' Ts Q' E' hk j hS q => ?_) (fun s' Ts Q' E' j q => ?_)
    ⟨hI, hit, hs, .inl ⟨rfl, hz, hO⟩, rfl, fun j T e => by simp at e⟩ (fun h1 h' Ts c' j hl k1 k2 hS => ?_)
  · rcases j.2.2.2.1 with ⟨_, q, _⟩ | ⟨_, f, T, oT, q, _⟩
    · exact ⟨_, q, rfl⟩
    · exact ⟨_, q, rfl⟩
  · obtain ⟨j1, j2, j3, j4, j5, j6⟩ := j
    have k' : ∀ b o, b ∈ [z, TO, i1, i2] → h.get? b = some o → h'.get? b = some o := fun b o hb q => kp b o (nS b hb) q
    refine ⟨kp _ _ (Nat.ne_of_lt lI) j1, K.itk h h' k j2 (fun o q => k' i1 o (by simp) q) (fun o q => k' i2 o (by simp) q), K.srck h h' j3 (fun b o _ hb q => kp b o (Nat.ne_of_lt (Nat.lt_trans hb lz)) q), ?_, j5, fun j T e => ?_⟩
    · rcases j4 with ⟨e, q, a, b, q2⟩ | ⟨e, f, T, oT, q, q2, q3, q4⟩
      · exact .inl ⟨e, k' z _ (by simp) q, a, b, k' TO _ (by simp) q2⟩
      · exact .inr ⟨e, f, T, oT, k' z _ (by simp) q, kp T _ q4 q2, q3, q4⟩
    · obtain ⟨a1, a2, a3, x, y, a4, a5, a6⟩ := j6 j T e
      exact ⟨a1, a2, a3, x, y, a4, a5, kp T _ a2 a6⟩
  · obtain ⟨j1, j2, j3, j4, j5, j6⟩ := j
    obtain ⟨x, y, ex, ey⟩ := get k hk
    obtain ⟨oS, hS⟩ := hS
    have lS := Heap.lt_size hS
    have fresh : ∀ b ∈ [z, TO, i1, i2], s'.heap.objs.size ≠ b := fun b hb e => absurd (Nat.lt_trans (nz b hb) lS) (by rw [← e]; exact Nat.lt_irrefl _)
    have nT : s'.heap.objs.size ∉ [z, TO, i1, i2] := fun m => fresh _ m rfl
    have zT : z < s'.heap.objs.size := Nat.lt_trans lz lS
    have more : ∀ h' : Heap, (∀ b o, b ∉ [z, TO, i1, i2] → s'.heap.get? b = some o → h'.get? b = some o) → IsPair h' s'.heap.objs.size x y → ∀ (j : Nat) (T : Addr), (Ts ++ [s'.heap.objs.size])[j]? = some T → T ∉ [z, TO, i1, i2] ∧ T ≠ s.heap.objs.size ∧ z < T ∧ ∃ x y, xs[j]? = some x ∧ ys[j]? = some y ∧ IsPair h' T x y := fun h' kp hp j T e => by
      rcases get_snoc e with ⟨_, e⟩ | ⟨e1, e2⟩
      · obtain ⟨a1, a2, a3, x', y', a4, a5, a6⟩ := j6 j T e
        exact ⟨a1, a2, a3, x', y', a4, a5, kp T _ a1 a6⟩
      · subst e1 e2
        rw [j5]
        exact ⟨nT, Nat.ne_of_gt lS, zT, x, y, ex, ey, hp⟩
    rcases j4 with ⟨e, z0, a, b, hO'⟩ | ⟨e, f, T, oT, z1, hT, nT1, nT2⟩
    · subst e
      refine K.item0 s' x y a b Q' E' z0 j1 hO' j2 j3 ex ey fun h' z' it' hp kp => ?_
      have kp' : ∀ b o, b ∉ [z, TO, i1, i2] → s'.heap.get? b = some o → h'.get? b = some o := fun b o nb e => by
        simp only [List.mem_cons, List.not_mem_nil, or_false, not_or] at nb
        exact kp b o nb.1 nb.2.1 nb.2.2.1 nb.2.2.2 e
      exact q _ h' ⟨kp' _ _ nI j1, it', K.srck _ _ j3 fun b o nb _ e => kp' b o nb e, .inr ⟨Nat.zero_lt_one, false, _, _, z', hp, nT, Nat.ne_of_gt lS⟩, by rw [List.length_append, j5]; rfl, more h' kp' hp⟩ kp'
    · refine K.itemH s' T f oT k x y Q' E' z1 hT j1 j2 j3 ex ey fun h' z' it' hp kp => ?_
      have kp' : ∀ b o, b ∉ [z, TO, i1, i2] → s'.heap.get? b = some o → h'.get? b = some o := fun b o nb e => by
        simp only [List.mem_cons, List.not_mem_nil, or_false, not_or] at nb
        exact kp b o nb.1 nb.2.2.1 nb.2.2.2 e
      exact q _ h' ⟨kp' _ _ nI j1, it', K.srck _ _ j3 fun b o nb _ e => kp' b o nb e, .inr ⟨Nat.succ_pos k, true, T, oT, z', kp' T _ nT1 hT, nT1, nT2⟩, by rw [List.length_append, j5]; rfl, more h' kp' hp⟩ kp'
  · obtain ⟨j1, j2, j3, j4, j5, j6⟩ := j
    have ex : xs[n]? = none := by simp; omega
    have ey : ys[n]? = none := by simp; omega
    rcases j4 with ⟨e, z0, a, b, hO'⟩ | ⟨e, f, T, oT, z1, hT, nT1, nT2⟩
    · rw [e] at ex ey j2
      refine K.end0 s' a b Q' E' z0 j1 hO' j2 j3 ex ey fun h' kp => q h' fun b o nb e => ?_
      simp only [List.mem_cons, List.not_mem_nil, or_false, not_or] at nb
      exact kp b o nb.1 nb.2.1 nb.2.2.1 nb.2.2.2 e
    · refine K.endH s' T f oT n Q' E' z1 hT j1 j2 j3 ex ey fun h' kp => q h' fun b o nb e => ?_
      simp only [List.mem_cons, List.not_mem_nil, or_false, not_or] at nb
      exact kp b o nb.1 nb.2.2.1 nb.2.2.2 e
  · obtain ⟨j1, j2, j3, j4, j5, j6⟩ := j
    refine hQ h' Ts c' hl (fun b o nb e => k2 b o nb (k1 b o nb e)) (fun j T e => ?_) hS
    obtain ⟨a1, a2, a3, x, y, a4, a5, a6⟩ := j6 j T e
    exact ⟨a3, x, y, a4, a5, k2 T _ a1 a6⟩
theorem kitL {z TI TO i1 i2 l1 l2 : Addr} {xs ys : Array Value} (hh : A.handled = none) (D : ZipApart z TI TO i1 i2 l1 l2) (b1 : l1 < z) (b2 : l2 < z) : Kit prog w A z TI TO i1 i2 xs ys (fun h k => h.IsListIter i1 l1 k ∧ h.IsListIter i2 l2 k) (fun h => h.IsList l1 xs ∧ h.IsList l2 ys) where
  itk := fun h h' k q k1 k2 => ⟨q.1.at fun o e => k1 o e, q.2.at fun o e => k2 o e⟩
  srck := fun h h' q kp => by
    obtain ⟨⟨o1, e1, r1⟩, ⟨o2, e2, r2⟩⟩ := q
    exact ⟨⟨o1, kp l1 o1 (by simp [D.l1z, D.l1TO, D.l1i1, D.l1i2]) b1 e1, r1⟩, ⟨o2, kp l2 o2 (by simp [D.l2z, D.l2TO, D.l2i1, D.l2i2]) b2 e2, r2⟩⟩
  item0 := fun s x y a b Q E hz hI hO it sr ex ey q => wpAny_pyNext_zip_item D hz hI hO it.1 it.2 sr.1 sr.2 ex ey fun h' a1 a2 a3 a4 a5 a6 a7 => q h' a1 ⟨a3, a4⟩ a5 a7
  itemH := fun s T f oT k x y Q E hz hT hI it sr ex ey q => wpAny_pyNext_zip_item_held D hz hT hI it.1 it.2 sr.1 sr.2 ex ey fun h' a1 a2 a3 a4 a5 a6 => q h' a1 ⟨a2, a3⟩ a4 a6
  end0 := fun s a b Q E hz hI hO it sr ex ey q => wpAny_pyNext_zip_end hh D hz hI hO it.1 it.2 sr.1 sr.2 (.inl ex) q
  endH := fun s T f oT k Q E hz hT hI it sr ex ey q => wpAny_pyNext_zip_end_held hh D hz hT hI it.1 it.2 sr.1 sr.2 (.inl ex) q
theorem kitT {z TI TO i1 i2 l1 l2 : Addr} {xs ys : Array Value} (hh : A.handled = none) (D : ZipApart z TI TO i1 i2 l1 l2) (b1 : l1 < z) (b2 : l2 < z) : Kit prog w A z TI TO i1 i2 xs ys (fun h k => h.IsTupleIter i1 l1 k ∧ h.IsTupleIter i2 l2 k) (fun h => h.IsTuple l1 xs ∧ h.IsTuple l2 ys) where
  itk := fun h h' k q k1 k2 => ⟨q.1.at fun o e => k1 o e, q.2.at fun o e => k2 o e⟩
  srck := fun h h' q kp => by
    obtain ⟨⟨o1, e1, r1⟩, ⟨o2, e2, r2⟩⟩ := q
    exact ⟨⟨o1, kp l1 o1 (by simp [D.l1z, D.l1TO, D.l1i1, D.l1i2]) b1 e1, r1⟩, ⟨o2, kp l2 o2 (by simp [D.l2z, D.l2TO, D.l2i1, D.l2i2]) b2 e2, r2⟩⟩
  item0 := fun s x y a b Q E hz hI hO it sr ex ey q => RZ.pyNext_zipT_item D hz hI hO it.1 it.2 sr.1 sr.2 ex ey fun h' a1 a2 a3 a4 a5 a6 a7 => q h' a1 ⟨a3, a4⟩ a5 a7
  itemH := fun s T f oT k x y Q E hz hT hI it sr ex ey q => nextT D hz hT hI it.1 it.2 sr.1 sr.2 ex ey fun h' a1 a2 a3 a4 => q h' a1 a2 a3 fun c o c1 c2 c3 e => a4 c o ⟨c1, c2, c3⟩ e
  end0 := fun s a b Q E hz hI hO it sr ex ey q => RZ.pyNext_zipT_end hh D hz hI hO it.1 it.2 sr.1 sr.2 (.inl ex) q
  endH := fun s T f oT k Q E hz hT hI it sr ex ey q => endT hh D hz hT hI it.1 it.2 sr.1 sr.2 ex fun h' a => q h' fun c o n1 n2 n3 e => a c o ⟨n1, n2, n3⟩ e
end
end
/-! ### the rule -/
section
open L2 PyProof.Rows
theorem inv_many {X : Cx} {pins : List (Addr × Obj)} {σ : L2.St} {H H2 : Hp} {s : Shared} {h2 : Heap} {t : Nat} (I : Inv X pins σ H s) (k : ∀ b o, s.heap.get? b = some o → h2.get? b = some o) (e : ∀ a o, H a = some o → H2 a = some o)
    (n : ∀ a o, H2 a = some o → H a = some o ∨ s.heap.objs.size ≤ a) (ok : HOk X.prog X.w H2 h2) : Inv X pins σ H2 { s with heap := h2, toks := t } := by
  refine I.un ⟨fun b o q _ _ _ => k b o q, fun b o q _ _ _ => ⟨o.slots, k b o q⟩, fun b o q hn _ => ?_, fun b o q _ => ⟨o, k b o q⟩, fun b xs q => e b _ q, fun b o u q => e b _ q, fun b ps q => ⟨#[], by rw [e b _ q]; simp⟩⟩ ok
  cases z : H2 b with
  | none => rfl
  | some u =>
    rcases n b u z with q2 | q2
    · rw [hn] at q2; cases q2
    · exact absurd (Heap.lt_size q) (Nat.not_lt.mpr q2)
open Classical in
noncomputable def withPairs (g : Heap) (H : Hp) (xs ys : List V) (Ts : List Addr) (l : Addr) : Hp := fun c => if c = l then some (.lst (Ts.map V.ref)) else if h : ∃ j : Nat, Ts[j]? = some c then some (.frz ((g.get? c).getD default) (.tup [xs.getD h.choose .non, ys.getD h.choose .non])) else H c
def tListZip (K : PySem.W.Frag) (ta : TA) : TE := fun σ H Q => ta σ H fun vs H1 => ∃ (a b : Addr) (xs ys : List V), vs = [.ref a, .ref b] ∧ ((SqL K H1 a xs ∧ SqL K H1 b ys) ∨ (SqT K H1 a xs ∧ SqT K H1 b ys)) ∧ xs.length = ys.length ∧
  ∀ (Ts : List Addr) (l : Addr) (H2 : Hp), Ts.length = xs.length → H1 l = none → (∀ T ∈ Ts, H1 T = none ∧ T ≠ l) → (∀ c o, H1 c = some o → H2 c = some o) → (∀ c o, H2 c = some o → H1 c = some o ∨ (H1 c = none ∧ (c = l ∨ c ∈ Ts))) → H2 l = some (.lst (Ts.map V.ref)) →
    (∀ (j : Nat) (T : Addr) (x y : V), Ts[j]? = some T → xs[j]? = some x → ys[j]? = some y → ∃ ob : Obj, H2 T = some (.frz ob (.tup [x, y])) ∧ ob.dict = none) → Q (.ref l) H2
theorem lt_no {b n k : Nat} (h : b < n) (e : b = n + k) : False := by omega
theorem lt_no0 {b n : Nat} (h : b < n) (e : b = n) : False := by omega
theorem no_le {c n k : Nat} {T : Nat} (h : n + k < T) : n ≤ T := by omega
theorem ne5 {c n m : Nat} (h : m = n + 5) (l : ¬ n ≤ c) : c ≠ m := by omega
theorem le5 {n m : Nat} (h : m = n + 5) : n ≤ m := by omega
theorem vals_refs : ∀ Ts : List Addr, Vals (Ts.map V.ref) (Ts.map Value.ref)
  | [] => .nil
  | _ :: r => .cons rfl (vals_refs r)
theorem zip_end {X : Cx} {pins : List (Addr × Obj)} {σ : L2.St} {H1 : Hp} {s1 : Shared} {xs ys : List V} {its its2 : List Value} {h' h'' : Heap} {Q : VK} (I1 : Inv X pins σ H1 s1) (rv : Vals xs its) (rv2 : Vals ys its2) (hl : xs.length = ys.length) (hz : xs.length ≤ sizeLine)
    (hsz : h'.objs.size = s1.heap.objs.size + 5) (hk : ∀ c o, s1.heap.get? c = some o → h'.get? c = some o)
    (q : ∀ (Ts : List Addr) (l : Addr) (H2 : Hp), Ts.length = xs.length → H1 l = none → (∀ T ∈ Ts, H1 T = none ∧ T ≠ l) → (∀ c o, H1 c = some o → H2 c = some o) → (∀ c o, H2 c = some o → H1 c = some o ∨ (H1 c = none ∧ (c = l ∨ c ∈ Ts))) → H2 l = some (.lst (Ts.map V.ref)) →
      (∀ (j : Nat) (T : Addr) (x y : V), Ts[j]? = some T → xs[j]? = some x → ys[j]? = some y → ∃ ob : Obj, H2 T = some (.frz ob (.tup [x, y])) ∧ ob.dict = none) → Q (.ref l) H2)
    {Ts : List Addr} {c' : Nat} (tl : Ts.length = xs.length) (kp : ∀ b o, b ∉ [s1.heap.objs.size + 4, s1.heap.objs.size + 3, s1.heap.objs.size, s1.heap.objs.size + 1] → h'.get? b = some o → h''.get? b = some o)
    (tp : ∀ (j : Nat) (T : Addr), Ts[j]? = some T → s1.heap.objs.size + 4 < T ∧ ∃ x y, its.toArray[j]? = some x ∧ its2.toArray[j]? = some y ∧ IsPair h'' T x y)
    (hS : h''.get? h'.objs.size = some { cls := .type "list", dict := none, data := .seq (Ts.map Value.ref).toArray c', slots := #[] }) : EP X pins σ Q (.ref h'.objs.size) { s1 with heap := h'' } := by
  have big : ∀ c, s1.heap.objs.size ≤ c → H1 c = none := fun c hc => I1.hok.fresh hc
  have kall : ∀ b o, s1.heap.get? b = some o → h''.get? b = some o := fun b o e => by
    have lb := Heap.lt_size e
    refine kp b o (fun m => ?_) (hk b o e)
    simp only [List.mem_cons, List.not_mem_nil, or_false] at m
    rcases m with m | m | m | m
    · exact lt_no lb m
    · exact lt_no lb m
    · exact lt_no0 lb m
    · exact lt_no lb m
  have nTl : ∀ (j : Nat) (T : Addr), Ts[j]? = some T → T ≠ h'.objs.size := fun j T e z => by
    obtain ⟨_, x, y, _, _, hp⟩ := tp j T e
    have hc : (Value.type "tuple" : Value) = Value.type "list" := congrArg Obj.cls (Option.some.inj (hp.symm.trans (z ▸ hS)))
    exact absurd hc (by decide +kernel)
  have mem : ∀ T ∈ Ts, ∃ j : Nat, Ts[j]? = some T := fun T m => List.mem_iff_getElem?.mp m
  have at_ : ∀ (j : Nat) (T : Addr), Ts[j]? = some T → ∃ x y u v, xs[j]? = some x ∧ ys[j]? = some y ∧ its[j]? = some u ∧ its2[j]? = some v ∧ RelV x u ∧ RelV y v ∧ IsPair h'' T u v := fun j T e => by
    obtain ⟨_, u, v, e1, e2, hp⟩ := tp j T e
    have jl : j < xs.length := by rw [← tl]; exact (List.getElem?_eq_some_iff.mp e).1
    have hx : xs[j]? = some xs[j] := by simp [jl]
    have hy : ys[j]? = some ys[j] := by simp [hl ▸ jl]
    obtain ⟨u', a1, a2⟩ := rv.get hx
    obtain ⟨v', b1, b2⟩ := rv2.get hy
    have e1 : its[j]? = some u := by simpa using e1
    have e2 : its2[j]? = some v := by simpa using e2
    rw [a1] at e1; cases e1
    rw [b1] at e2; cases e2
    exact ⟨_, _, _, _, hx, hy, a1, b1, a2, b2, hp⟩
  -- what stands at a pair's place
  have pairAt : ∀ (j : Nat) (T : Addr) (x y : V), Ts[j]? = some T → xs[j]? = some x → ys[j]? = some y → ∃ ob : Obj, withPairs h'' H1 xs ys Ts h'.objs.size T = some (.frz ob (.tup [x, y])) ∧ ob.dict = none ∧ h''.get? T = some ob := fun j T x y e hx hy => by
    unfold withPairs
    rw [if_neg (nTl j T e)]
    have ex : ∃ j : Nat, Ts[j]? = some T := ⟨j, e⟩
    rw [dif_pos ex]
    obtain ⟨x1, y1, u1, v1, p1, p2, p3, p4, p5, p6, p7⟩ := at_ _ T ex.choose_spec
    obtain ⟨x2, y2, u2, v2, q1, q2, q3, q4, q5, q6, q7⟩ := at_ j T e
    rw [q1] at hx; cases hx
    rw [q2] at hy; cases hy
    have z := p7.symm.trans q7
    cases z
    have ex1 := RelV.inj p5 q5
    have ex2 := RelV.inj p6 q6
    rw [List.getD_eq_getElem?_getD, List.getD_eq_getElem?_getD, p1, p2, ex1, ex2, p7]
    exact ⟨_, rfl, rfl, rfl⟩
  have here : withPairs h'' H1 xs ys Ts h'.objs.size h'.objs.size = some (.lst (Ts.map V.ref)) := by
    unfold withPairs
    rw [if_pos rfl]
  have old : ∀ c o, H1 c = some o → withPairs h'' H1 xs ys Ts h'.objs.size c = some o := fun c o e => by
    have nc : ¬ s1.heap.objs.size ≤ c := fun hc => by rw [big c hc] at e; cases e
    unfold withPairs
    rw [if_neg (ne5 hsz nc), dif_neg (fun ⟨j, hj⟩ => nc (no_le (c := c) (tp j c hj).1))]
    exact e
  have new : ∀ c o, withPairs h'' H1 xs ys Ts h'.objs.size c = some o → H1 c = some o ∨ (H1 c = none ∧ (c = h'.objs.size ∨ c ∈ Ts)) := fun c o e => by
    unfold withPairs at e
    by_cases h1 : c = h'.objs.size
    · exact .inr ⟨big c (by rw [h1]; exact le5 hsz), .inl h1⟩
    · rw [if_neg h1] at e
      by_cases h2 : ∃ j : Nat, Ts[j]? = some c
      · obtain ⟨j, hj⟩ := h2
        exact .inr ⟨big c (no_le (c := c) (tp j c hj).1), .inr (List.mem_iff_getElem?.mpr ⟨j, hj⟩)⟩
      · rw [dif_neg h2] at e
        exact .inl e
  have ok : HOk X.prog X.w (withPairs h'' H1 xs ys Ts h'.objs.size) h'' := fun a o e => by
    rcases new a o e with q1 | ⟨q1, q2⟩
    · exact (I1.hok a o q1).stay (fun b u _ q => kall b u q) (fun b q => old b _ q) fun b zs q => old b _ q
    · rcases q2 with q2 | q2
      · subst q2
        rw [here] at e; cases e
        exact ⟨by rw [List.length_map, tl]; exact hz, _, c', vals_refs Ts, hS⟩
      · obtain ⟨j, hj⟩ := mem a q2
        obtain ⟨x, y, u, v, p1, p2, p3, p4, p5, p6, p7⟩ := at_ j a hj
        obtain ⟨ob, z1, z2, z3⟩ := pairAt j a x y hj p1 p2
        rw [z1] at e; cases e
        refine ⟨z3, ?_⟩
        exact ⟨by show 2 ≤ sizeLine; decide, [u, v], .cons p5 (.cons p6 .nil), ⟨_, p7, rfl, 0, rfl⟩⟩
  refine ⟨.ref h'.objs.size, withPairs h'' H1 xs ys Ts h'.objs.size, inv_many (t := s1.toks) I1 kall old (fun a o e => ?_) ok, rfl, q Ts _ _ tl (big _ (le5 hsz)) (fun T m => ?_) old new here fun j T x y a b c => let ⟨ob, z1, z2, _⟩ := pairAt j T x y a b c; ⟨ob, z1, z2⟩⟩
  · rcases new a o e with q1 | ⟨q1, q2⟩
    · exact .inl q1
    · right
      rcases q2 with q2 | q2
      · rw [q2]; exact le5 hsz
      · obtain ⟨j, hj⟩ := mem a q2
        exact no_le (c := a) (tp j a hj).1
  · obtain ⟨j, hj⟩ := mem T m
    exact ⟨big T (no_le (c := T) (tp j T hj).1), nTl j T hj⟩
theorem pe_listZip {X : Cx} {e e2 : Expr} {ta : TA} {p0 p pos pos0 : Pos} (hc : X.calm = true) (hm0 : X.mg "list" = none) (hm : X.mg "zip" = none) (ha : PA X [e, e2] ta) (hg0 : Gl X "list" := by rfl) (hg : Gl X "zip" := by rfl)
    (hs0 : starEach [.Call (.Name "zip" p) [e, e2] [] pos] X.env = (false, eval (.Call (.Name "zip" p) [e, e2] [] pos) X.env) :: starEach [] X.env := by rfl)
    (hs : starEach [e, e2] X.env = (false, eval e X.env) :: starEach [e2] X.env := by rfl) (hpl : (backTo pos (starEach [e2] X.env)).any (·.1) = false := by rfl) :
    PE X (.Call (.Name "list" p0) [.Call (.Name "zip" p) [e, e2] [] pos] [] pos0) (tListZip X.K ta) := by
  refine ⟨fun pins s σ H Q I h => ?_⟩
  refine wpAny_Call_Name_kw (ld_blt I hg0 hm0 (show bootBuiltins ("list" : Str) = some (.type "list") by decide +kernel) (PyProof.Rows.callWith_type1 ?_ hs0 (by rfl)))
  rw [hs0]
  show wpAny _ _ (spliced ((false, eval (.Call (.Name "zip" p) [e, e2] [] pos) X.env) :: backTo pos0 (starEach [] X.env))) _ _ s
  refine Calls.spliced_cons (Call_ (ld_blt I hg hm PyProof.Rows.boot_zip (PyProof.Rows.callWith_type1 (thn (ha.run pos pins s σ H _ I h) fun us s1 ⟨vs, H1, I1, r1, q1⟩ => ?_) hs hpl)))
  obtain ⟨a, b, xs, ys, ex, hq, hl, q⟩ := q1
  subst ex
  have hh : X.A.in1.in1.handled = none := I.ok.hd hc
  cases r1 with
  | cons r rr =>
    cases rr with
    | cons r' rr =>
      cases rr
      cases r
      cases r'
      rcases hq with ⟨hx, hy⟩ | ⟨hx, hy⟩
      · obtain ⟨its, rv, p1, z1⟩ := I1.list hx
        obtain ⟨its2, rv2, p2, z2⟩ := I1.list hy
        have e1 := rv.length
        have e2' := rv2.length
        refine call_zip_2 p1.isList p2.isList fun h' hz hTI hTO h1 h2 hsz hk => Calls.spliced_nil ?_
        have la : a < s1.heap.objs.size := p1.lt
        have lb : b < s1.heap.objs.size := p2.lt
        refine list_zip (s := { s1 with heap := h' }) (xs := its.toArray) (ys := its2.toArray) (n := xs.length) (kitL hh (PySem.W.ktu_apart s1.heap.objs.size a b p1.lt p2.lt) (Nat.lt_of_lt_of_le la (Nat.le_add_right _ _)) (Nat.lt_of_lt_of_le lb (Nat.le_add_right _ _))) (by rw [List.size_toArray]; omega) (by rw [List.size_toArray]; omega) z1 hz hTI ⟨_, _, hTO⟩ ⟨h1, h2⟩ ⟨?_, ?_⟩ (by show s1.heap.objs.size < h'.objs.size; omega) (by show s1.heap.objs.size + 1 < h'.objs.size; omega) ?_ fun h'' Ts c' tl kp tp hS => zip_end (s1 := s1) I1 rv rv2 hl z1 hsz hk q tl kp tp hS
        · obtain ⟨o, ho, r⟩ := p1.isList
          exact ⟨o, hk _ _ ho, r⟩
        · obtain ⟨o, ho, r⟩ := p2.isList
          exact ⟨o, hk _ _ ho, r⟩
        · simp only [List.mem_cons, List.not_mem_nil, or_false, not_or]
          refine ⟨?_, ?_, ?_, ?_⟩ <;> (intro z; have z : (_ : Nat) = _ := z; omega)
      · obtain ⟨its, rv, p1, z1⟩ := I1.tuple hx
        obtain ⟨its2, rv2, p2, z2⟩ := I1.tuple hy
        have e1 := rv.length
        have e2' := rv2.length
        obtain ⟨o1, ho1, r1⟩ := id p1
        obtain ⟨o2, ho2, r2⟩ := id p2
        have la : a < s1.heap.objs.size := Heap.lt_size ho1
        have lb : b < s1.heap.objs.size := Heap.lt_size ho2
        refine RZ.call_zipT (show s1.heap.IsTuple a its.toArray from p1) (show s1.heap.IsTuple b its2.toArray from p2) fun h' hz hTI hTO h1 h2 hsz hk => Calls.spliced_nil ?_
        refine list_zip (s := { s1 with heap := h' }) (xs := its.toArray) (ys := its2.toArray) (n := xs.length) (kitT hh (PySem.W.ktu_apart s1.heap.objs.size a b la lb) (Nat.lt_of_lt_of_le la (Nat.le_add_right _ _)) (Nat.lt_of_lt_of_le lb (Nat.le_add_right _ _))) (by rw [List.size_toArray]; omega) (by rw [List.size_toArray]; omega) z1 hz hTI ⟨_, _, hTO⟩ ⟨h1, h2⟩ ⟨⟨o1, hk _ _ ho1, r1⟩, ⟨o2, hk _ _ ho2, r2⟩⟩ (by show s1.heap.objs.size < h'.objs.size; omega) (by show s1.heap.objs.size + 1 < h'.objs.size; omega) ?_ fun h'' Ts c' tl kp tp hS => zip_end (s1 := s1) I1 rv rv2 hl z1 hsz hk q tl kp tp hS
        simp only [List.mem_cons, List.not_mem_nil, or_false, not_or]
        refine ⟨?_, ?_, ?_, ?_⟩ <;> (intro z; have z : (_ : Nat) = _ := z; omega)
end
end ZL
set_option Elab.async false
set_option linter.all false
set_option maxRecDepth 100000
set_option maxHeartbeats 2000000
/-! DL4: the bag, lists of one's own, isinstance, comprehensions, defs. -/
namespace DL
open PySem L2
open ZT (PT)
section
variable {X : Cx} {W : WX}
/-! ### the bag's cells -/
def bagIx (B : Bag) : Nat → Option PD
  | 0 => some (.int (B.s0 : Int))
  | 1 => some (.int (B.s1 : Int))
  | 2 => some (.int (B.s2 : Int))
  | 3 => some (.list (B.cells.map fun n : Nat => PyData.int (n : Int)))
  | _ => none
def mBagIx (i k : Nat) : EnvM → Bag → Res PD := fun env B => match env[i]? with
  | some (some .bag) => (match bagIx B k with
    | some d => .ok d B
    | none => .bad)
  | _ => .bad
theorem DRs.nats {K : Fg} {G : Hp} : ∀ ns : List Nat, DRs K G (ns.map fun n : Nat => V.int (n : Int)) (ns.map fun n : Nat => PyData.int (n : Int))
  | [] => .nil
  | n :: r => .cons (.int _) (DRs.nats r)
theorem ed_bag (i k : Nat) {x : Str} {j : Nat} {p1 p2 pos : Pos} (hN : X.N[i]? = some x := by rfl) (hv : Vis X.env.scope x := by first | exact Or.inl rfl | exact Or.inr (Or.inl rfl) | exact Or.inr (Or.inr rfl)) (hd : (x == ("__debug__" : Str)) = false := by decide)
    (hcd : (x == ("__classdict__" : Str)) = false := by decide) : ED X W (.Subscript (.Name x p1) (.Constant (.int (k : Int)) j p2) pos) (tOp (rIxL X.K) (tVar i) (tC (.int (k : Int)))) (mBagIx i k) := by
  refine ⟨pe_ix ix_list (pe_var hN hv hd hcd) pe_int (fun _ _ => rfl), fun w G0 H0 σ env G H B Q R h => ?_⟩
  unfold mBagIx at h
  split at h
  · rename_i q
    obtain ⟨v, h1, b, l, hw, hv⟩ := R.slot i _ q
    subst hv
    obtain ⟨a1, a2, a3⟩ := R.ok.bag b l hw
    have gl := R.ok.gl b l hw
    have go : ∀ (v : V) (d : PD), ([V.int (B.s0 : Int), .int (B.s1 : Int), .int (B.s2 : Int), .ref l] : List V)[k]? = some v → bagIx B k = some d → DR X.K G v d → tOp (rIxL X.K) (tVar i) (tC (.int (k : Int))) σ H Q := fun v d e1 e2 dr => by
      rw [e2] at h
      exact ⟨_, h1, b, _, (k : Int), v, rfl, rfl, SqL.of a1, atI_nat e1, h v G H Step.refl R.ok dr⟩
    match k with
    | 0 => exact go _ _ rfl rfl (.int _)
    | 1 => exact go _ _ rfl rfl (.int _)
    | 2 => exact go _ _ rfl rfl (.int _)
    | 3 => exact go _ _ rfl rfl (.lst gl (DRs.nats _))
    | k + 4 => exact (show False from h).elim
  · exact h.elim
def bagSet (B : Bag) (k v : Nat) : Option Bag := match k with
  | 0 => some { B with s0 := v }
  | 1 => some { B with s1 := v }
  | 2 => some { B with s2 := v }
  | _ => none
/-- the slots when the bag changes -/
theorem Rel.bag {K : Fg} {w : Wd} {G0 H0 : Hp} {σ : L2.St} {env : EnvM} {G H : Hp} {B B' : Bag} (R : Rel K w G0 H0 σ env G H B) {b l : Addr} (hw : w.bg = some (b, l)) (hc : B'.cells = B.cells) :
    Rel K w G0 H0 σ env G (upd H b (.lst [.int (B'.s0 : Int), .int (B'.s1 : Int), .int (B'.s2 : Int), .ref l])) B' := by
  obtain ⟨a1, a2, a3⟩ := R.ok.bag b l hw
  have nG : ∀ c o, G c = some o → c ≠ b := fun c o e z => by
    rw [z, R.ok.gb b l hw] at e; cases e
  have nK : ∀ c, Nb1 w c → c ≠ b := fun c n z => n.1 b l hw z.symm
  refine ⟨⟨fun c o e => by rw [upd_ne (nG c o e)]; exact R.ok.sub c o e, fun b' l' e => ?_, R.ok.gb, tabs_upd R.ok.tabs (fun t ht z => by obtain ⟨ps, h1, _⟩ := R.ok.tabs t ht; rw [z, a1] at h1; cases h1) (fun _ => by rw [a1]; exact noCo (fun _ z => by cases z)), R.ok.gt, fun b' l' e => by rw [hc]; exact R.ok.gl b' l' e⟩, ⟨R.ent.exG, R.ent.fr, fun c o n nt e => by rw [upd_ne (nK c n)]; exact R.ent.keep c o n nt e, fun c o nt e => ?_⟩, R.len, fun i sv e => ?_, R.dist, R.wk⟩
  · rw [hw] at e
    cases e
    exact ⟨upd_same, a2, by rw [upd_ne a2, hc]; exact a3⟩
  · by_cases hcb : c = b
    · subst hcb; exact ⟨_, (fun _ z => by cases z), upd_same⟩
    · rw [upd_ne hcb]; exact R.ent.there c o nt e
  · obtain ⟨v, h1, h2⟩ := R.slot i sv e
    refine ⟨v, h1, ?_⟩
    cases sv with
    | d x => exact h2
    | own xs =>
      obtain ⟨p, vs, e1, g, h0, hn, hp, r⟩ := h2
      exact ⟨p, vs, e1, g, h0, hn, by rw [upd_ne (nK p hn.one)]; exact hp, r⟩
    | bag => exact h2
    | ownD xs =>
      obtain ⟨p, vs, e1, g, h0, hn, hp, r⟩ := h2
      exact ⟨p, vs, e1, g, h0, hn, by rw [upd_ne (nK p hn.one)]; exact hp, r⟩
def mBagSet (i k : Nat) (m : EnvM → Bag → Res PD) : EnvM → Bag → SRes := fun env B => (m env B).s env fun d B1 => match env[i]?, d with
  | some (some .bag), .int v => if 0 ≤ v then (match bagSet B1 k v.toNat with
    | some B2 => .nx env B2
    | none => .bad) else .bad
  | _, _ => .bad
theorem bag_put {K : Fg} {w : Wd} {G0 H0 : Hp} {σ : L2.St} {env : EnvM} {G H : Hp} {B B2 : Bag} {k v : Nat} {Q : Hp → Prop} {b l : Addr} (R : Rel K w G0 H0 σ env G H B) (hw : w.bg = some (b, l)) (e : bagSet B k v = some B2) (q : ∀ H', Rel K w G0 H0 σ env G H' B2 → Q H') : rSetL (.ref b) (.int (k : Int)) (.int (v : Int)) H Q := by
  obtain ⟨a1, a2, a3⟩ := R.ok.bag b l hw
  match k, e with
  | 0, e => cases e; exact ⟨b, _, 0, 0, rfl, rfl, a1, rfl, q _ (R.bag (B' := { B with s0 := v }) hw rfl)⟩
  | 1, e => cases e; exact ⟨b, _, 1, 1, rfl, rfl, a1, rfl, q _ (R.bag (B' := { B with s1 := v }) hw rfl)⟩
  | 2, e => cases e; exact ⟨b, _, 2, 2, rfl, rfl, a1, rfl, q _ (R.bag (B' := { B with s2 := v }) hw rfl)⟩
  | k + 3, e => cases e
theorem sd_bagSet (i k : Nat) {x : Str} {j : Nat} {e : Expr} {t : TE} {m : EnvM → Bag → Res PD} {p1 p2 p3 pos : Pos} (he : ED X W e t m) (hN : X.N[i]? = some x := by rfl) (hv : Vis X.env.scope x := by first | exact Or.inl rfl | exact Or.inr (Or.inl rfl) | exact Or.inr (Or.inr rfl))
    (hd : (x == ("__debug__" : Str)) = false := by decide) (hcd : (x == ("__classdict__" : Str)) = false := by decide)
    (hs : swapsWithSole [.Subscript (.Name x p1) (.Constant (.int (k : Int)) j p2) p3] e pos.line X.env = pure false := by rfl) (hw : swappedStores [.Subscript (.Name x p1) (.Constant (.int (k : Int)) j p2) p3] e X.env = pure none := by rfl)
    (h1 : (assignEach [.Subscript (.Name x p1) (.Constant (.int (k : Int)) j p2) p3] X.env).map (·.2) = [assign (.Subscript (.Name x p1) (.Constant (.int (k : Int)) j p2) p3) X.env] := by rfl) :
    SD X W (.Assign [.Subscript (.Name x p1) (.Constant (.int (k : Int)) j p2) p3] e pos) (tAsg t (gSub (tVar i) (tC (.int (k : Int))) rSetL)) (mBagSet i k m) := by
  refine ⟨ps_asg he.pe (pg_sub (pe_var hN hv hd hcd) pe_int set_list) hs hw h1, fun w G0 H0 σ env G H B D R h => ?_⟩
  refine he.sem w G0 H0 σ env G H B _ R (PostS.bind R (Sub.refl _) h fun d B1 v G1 H1 s1 o1 d1 h1 => ?_)
  have R1 := R.step s1 o1
  split at h1
  · rename_i z q
    obtain ⟨v', g1, b, l, hw, hv⟩ := R1.slot i _ q
    subst hv
    have e1 := d1.int_inv
    subst e1
    by_cases hz : 0 ≤ z
    · rw [if_pos hz] at h1
      cases e2 : bagSet B1 k z.toNat with
      | none => rw [e2] at h1; exact h1.elim
      | some B2 =>
        rw [e2] at h1
        have ez : ((z.toNat : Nat) : Int) = z := Int.toNat_of_nonneg hz
        refine ⟨_, g1, ?_⟩
        rw [← ez]
        exact bag_put R1 hw e2 fun H' R' => h1 σ G1 H' R' s1.exG
    · rw [if_neg hz] at h1; exact h1.elim
  · exact h1.elim
/-- bag[k] += n -/
theorem get_bag : PGet X (fun x y H Q => ∃ (p : Addr) (xs : List V) (k : Nat) (v : V), x = .ref p ∧ y = .int (k : Int) ∧ H p = some (.lst xs) ∧ xs[k]? = some v ∧ Q v H) := by
  intro pins s σ H o i ov iv Q I ro ri h
  obtain ⟨p, xs, k, v, rfl, rfl, hp, hx, q⟩ := h
  cases ro
  obtain ⟨t, rfl⟩ := ri
  obtain ⟨its, r, pl, hz⟩ := I.list (SqL.of hp)
  obtain ⟨u, hu, ru⟩ := r.get hx
  have hk : k < xs.length := (List.getElem?_eq_some_iff.mp hx).1
  have hn := line63
  exact wpAny_getItem_list pl.isList (by omega) (by omega) (by simpa using hu) ⟨v, H, I, ru, q⟩
def mBagAug (i k n : Nat) : EnvM → Bag → SRes := fun env B => match env[i]? with
  | some (some .bag) => (match bagIx B k with
    | some (.int v) => (match bagSet B k (v.toNat + n) with
      | some B2 => .nx env B2
      | none => .bad)
    | _ => .bad)
  | _ => .bad
theorem sd_bagAug (i k n : Nat) {x : Str} {j j2 : Nat} {p1 p2 p3 p4 pos : Pos} (hN : X.N[i]? = some x := by rfl) (hv : Vis X.env.scope x := by first | exact Or.inl rfl | exact Or.inr (Or.inl rfl) | exact Or.inr (Or.inr rfl))
    (hd : (x == ("__debug__" : Str)) = false := by decide) (hcd : (x == ("__classdict__" : Str)) = false := by decide) :
    SD X W (.AugAssign (.Subscript (.Name x p1) (.Constant (.int (k : Int)) j p2) p3) .Add (.Constant (.int (n : Int)) j2 p4) pos)
      (tAugS (tVar i) (tC (.int (k : Int))) (tC (.int (n : Int))) (fun x y H Q => ∃ (p : Addr) (xs : List V) (k : Nat) (v : V), x = .ref p ∧ y = .int (k : Int) ∧ H p = some (.lst xs) ∧ xs[k]? = some v ∧ Q v H) (ipI fun i j => i + j) rSetL) (mBagAug i k n) := by
  refine ⟨ps_augS (pe_var hN hv hd hcd) pe_int get_bag pe_int ip_add set_list, fun w G0 H0 σ env G H B D R h => ?_⟩
  unfold mBagAug at h
  split at h
  · rename_i q
    obtain ⟨v, h1, b, l, hw, hv⟩ := R.slot i _ q
    subst hv
    obtain ⟨a1, a2, a3⟩ := R.ok.bag b l hw
    have go : ∀ (v : Nat) (B2 : Bag), ([V.int (B.s0 : Int), .int (B.s1 : Int), .int (B.s2 : Int), .ref l] : List V)[k]? = some (.int (v : Int)) → bagSet B k (v + n) = some B2 → PostS X.K X.mg w G0 H0 G W D (.nx env B2) →
        tAugS (tVar i) (tC (.int (k : Int))) (tC (.int (n : Int))) (fun x y H Q => ∃ (p : Addr) (xs : List V) (k : Nat) (v : V), x = .ref p ∧ y = .int (k : Int) ∧ H p = some (.lst xs) ∧ xs[k]? = some v ∧ Q v H) (ipI fun i j => i + j) rSetL D σ H := fun v B2 e1 e2 p => by
      refine ⟨_, h1, b, _, k, _, rfl, rfl, a1, e1, (v : Int), (n : Int), rfl, rfl, ?_⟩
      have ez : ((v : Int) + (n : Int)) = ((v + n : Nat) : Int) := by omega
      show rSetL (.ref b) (.int (k : Int)) (.int ((v : Int) + (n : Int))) H _
      rw [ez]
      exact bag_put R hw e2 fun H' R' => p σ G H' R' (Sub.refl G)
    match k, h with
    | 0, h => exact go B.s0 _ rfl rfl h
    | 1, h => exact go B.s1 _ rfl rfl h
    | 2, h => exact go B.s2 _ rfl rfl h
    | 3, h => exact h.elim
    | k + 4, h => exact h.elim
  · exact h.elim

/-! ### lists of one's own -/
theorem Rel.setOwn {K : Fg} {w : Wd} {G0 H0 : Hp} {σ : L2.St} {env : EnvM} {G H G1 H1 : Hp} {B B1 : Bag} {p : Addr} {vs : List V} {xs : List PD} (R : Rel K w G0 H0 σ env G H B) (s : Step w G H G1 H1) (o : Ok w G1 H1 B1) (i : Nat) (hn : NN (H p)) (hp : H1 p = some (.lst vs)) (hg : G1 p = none) (hb : Nb w p) (r : DRs K G1 vs xs) :
    Rel K w G0 H0 (σ.set i (some (.ref p))) (env.set i (some (.own xs))) G1 H1 B1 := by
  have h0 : NN (H0 p) := R.ent.back0 hn
  refine (R.step s o).put i (fun sv e => by cases e; exact ⟨_, rfl, p, vs, rfl, hg, h0, hb, hp, r⟩) fun sv e _ j sj q hij ej oj eq z => ?_
  cases eq
  obtain ⟨v, h1, h2⟩ := R.slot j sj ej
  cases sj with
  | d x => cases oj
  | bag => cases oj
  | own ys =>
    obtain ⟨p', vs', e1, _, _, _, hp', _⟩ := h2
    subst e1
    rw [h1] at z
    cases z
    exact hn.ne hp' (fun _ z => by cases z) rfl
  | ownD ys =>
    obtain ⟨p', vs', e1, _, _, _, hp', _⟩ := h2
    subst e1
    rw [h1] at z
    cases z
    exact hn.ne hp' (fun _ z => by cases z) rfl
/-- the list of one's own in slot i changes -/
theorem Rel.upOwn {K : Fg} {w : Wd} {G0 H0 : Hp} {σ : L2.St} {env : EnvM} {G H : Hp} {B : Bag} {p : Addr} {vs vs' : List V} {xs xs' : List PD} (R : Rel K w G0 H0 σ env G H B) (i : Nat) (e : env[i]? = some (some (.own xs))) (hs : σ[i]? = some (some (.ref p))) (hp : H p = some (.lst vs)) (r : DRs K G vs' xs') (hg : G p = none) (h0 : NN (H0 p)) (hb : Nb w p) :
    Rel K w G0 H0 σ (env.set i (some (.own xs'))) G (upd H p (.lst vs')) B := by
  have hi : i < env.length := (List.getElem?_eq_some_iff.mp e).1
  refine ⟨R.ok.mut hg hb (fun _ => by rw [hp]; exact noCo (fun _ z => by cases z)), ⟨R.ent.exG, R.ent.fr, fun a o n nt q => by rw [upd_ne (h0.ne q nt)]; exact R.ent.keep a o n nt q, fun a o nt q => by rw [upd_ne (h0.ne q nt)]; exact R.ent.there a o nt q⟩, by rw [List.length_set]; exact R.len, fun j sv ej => ?_, fun j k sj sk q hjk ej oj ek ok => ?_, R.wk⟩
  · by_cases hij : i = j
    · subst hij
      rw [List.getElem?_set_self hi] at ej
      cases ej
      exact ⟨_, hs, p, vs', rfl, hg, h0, hb, upd_same, r⟩
    · rw [List.getElem?_set_ne hij] at ej
      obtain ⟨v, h1, h2⟩ := R.slot j sv ej
      refine ⟨v, h1, ?_⟩
      cases sv with
      | d x => exact h2
      | bag => exact h2
      | own ys =>
        obtain ⟨p', us, e1, g', h0', hb', hp', r'⟩ := h2
        subst e1
        have npp : p' ≠ p := fun z => by
          subst z
          exact R.dist i j _ _ p' hij e rfl ej rfl hs h1
        exact ⟨p', us, rfl, g', h0', hb', by rw [upd_ne npp]; exact hp', r'⟩
      | ownD ys =>
        obtain ⟨p', us, e1, g', h0', hb', hp', r'⟩ := h2
        subst e1
        have npp : p' ≠ p := fun z => by
          subst z
          exact R.dist i j _ _ p' hij e rfl ej rfl hs h1
        exact ⟨p', us, rfl, g', h0', hb', by rw [upd_ne npp]; exact hp', r'⟩
  · have back : ∀ (j : Nat) (sj : SV), (env.set i (some (.own xs')))[j]? = some (some sj) → sj.isOwn = true → ∃ s', env[j]? = some (some s') ∧ s'.isOwn = true := fun j sj ej oj => by
      by_cases hij : i = j
      · subst hij; exact ⟨_, e, rfl⟩
      · rw [List.getElem?_set_ne hij] at ej; exact ⟨sj, ej, oj⟩
    obtain ⟨s1, q1, q2⟩ := back j sj ej oj
    obtain ⟨s2, q3, q4⟩ := back k sk ek ok
    exact R.dist j k s1 s2 q hjk q1 q2 q3 q4
/-- a, b = [..], e -/
def mParOwn (i j : Nat) (m : EnvM → Bag → Res (List SV)) (m2 : EnvM → Bag → Res PD) : EnvM → Bag → SRes := fun env B => (m env B).s env fun ss B1 => match unD ss with
  | some ds => if ds.length ≤ sizeLine then (m2 env B1).s env fun d B2 => .nx ((env.set i (some (.own ds))).set j (some (.d d))) B2 else .bad
  | none => .bad
theorem sd_parOwn (i j : Nat) {x y : Str} {es : List Expr} {b : Expr} {t : TA} {t2 : TE} {m : EnvM → Bag → Res (List SV)} {m2 : EnvM → Bag → Res PD} {px py pt pl pos : Pos} {kt k2 pt2} (hc : X.calm = true) (hN : X.N.Nodup) (ha : AD X W es t m) (hb : ED X W b t2 m2) (hi : X.N[i]? = some x := by rfl) (hj : X.N[j]? = some y := by rfl) (hij : i ≠ j := by decide)
    (hx : X.env.scope.names.lookup x = some .local := by rfl) (hy : X.env.scope.names.lookup y = some .local := by rfl)
    (hs1 : starEach [.List es pl, b] X.env = (false, eval (.List es pl) X.env) :: starEach [b] X.env := by rfl) (hs2 : starEach [b] X.env = (false, eval b X.env) :: starEach [] X.env := by rfl)
    (hw : swappedStores [.Tuple [.Name x px, .Name y py] kt pt] (.Tuple [.List es pl, b] k2 pt2) X.env = pure (some [x, y]) := by rfl)
    (hs : swapsWithSole [.Tuple [.Name x px, .Name y py] kt pt] (.Tuple [.List es pl, b] k2 pt2) pos.line X.env = pure false := by rfl) :
    SD X W (.Assign [.Tuple [.Name x px, .Name y py] kt pt] (.Tuple [.List es pl, b] k2 pt2) pos) (tPar i j (tCons (tLst t) (tCons t2 tNil))) (mParOwn i j m m2) := by
  refine ⟨ps_par hc hN hi hj hij hx hy (pa_cons (pe_lst ha.pe) (pa_cons hb.pe pa_nil hs2) hs1) hw hs, fun w G0 H0 σ env G H B D R h => ?_⟩
  refine ha.sem w G0 H0 σ env G H B _ R (PostS.bind R (Sub.refl _) h fun ss B1 vs G1 H1 s1 o1 d1 h1 => ?_)
  cases e : unD ss with
  | none => simp only [e] at h1; exact h1.elim
  | some ds =>
    simp only [e] at h1
    have r := d1.un e
    by_cases hl : ds.length ≤ sizeLine
    · rw [if_pos hl] at h1
      refine ⟨by rw [r.length]; exact hl, fun p hp => ?_⟩
      have R1 := R.step s1 o1
      have s2 : Step w G1 H1 G1 (upd H1 p (.lst vs)) := Step.newH hp
      have o2 := o1.newH (o := .lst vs) hp
      have R2 := R1.step s2 o2
      refine hb.sem w G0 H0 σ env G1 (upd H1 p (.lst vs)) B1 _ R2 (PostS.bind R2 s1.exG h1 fun d B2 v G3 H3 s3 o3 d3 h3 => ?_)
      have nb := o1.nb hp
      have gp : G3 p = none := by
        cases q : G3 p with
        | none => rfl
        | some o =>
          rcases s3.fr p o q with z | z
          · have := o1.sub p o z
            rw [hp] at this; cases this
          · exact absurd rfl (z.ne upd_same (fun _ z => by cases z))
      have R3 := R1.setOwn (s2.trans s3) o3 i (.inl hp) (s3.keep p _ nb.one (fun _ z => by cases z) upd_same) gp nb (r.mono s3.exG)
      exact ⟨_, _, rfl, h3 _ G3 H3 (R3.set j d3) (Sub.trans s1.exG s3.exG)⟩
    · rw [if_neg hl] at h1; exact h1.elim
/-- x = [..] -/
def mOwn (i : Nat) (m : EnvM → Bag → Res (List SV)) : EnvM → Bag → SRes := fun env B => (m env B).s env fun ss B1 => match unD ss with
  | some ds => if ds.length ≤ sizeLine then .nx (env.set i (some (.own ds))) B1 else .bad
  | none => .bad
theorem sd_own (i : Nat) {x : Str} {es : List Expr} {t : TA} {m : EnvM → Bag → Res (List SV)} {pos pos' pl : Pos} (hN : X.N.Nodup) (ha : AD X W es t m) (hi : X.N[i]? = some x := by rfl) (hx : Loc X.env.scope x := by first | exact Or.inl rfl | exact Or.inr rfl)
    (hs : swapsWith (.List es pl) (some (.Name x pos')) pos.line X.env = pure false := by rfl) (hf : X.fn x = true ∨ X.env.scope.names.lookup x = some .local := by first | exact .inl rfl | exact .inr rfl) :
    SD X W (.Assign [.Name x pos'] (.List es pl) pos) (tAsg (tLst t) (gName i)) (mOwn i m) := by
  refine ⟨ps_set hN hi hx (pe_lst ha.pe) hs hf, fun w G0 H0 σ env G H B D R h => ?_⟩
  refine ha.sem w G0 H0 σ env G H B _ R (PostS.bind R (Sub.refl _) h fun ss B1 vs G1 H1 s1 o1 d1 h1 => ?_)
  cases e : unD ss with
  | none => simp only [e] at h1; exact h1.elim
  | some ds =>
    simp only [e] at h1
    have r := d1.un e
    by_cases hl : ds.length ≤ sizeLine
    · rw [if_pos hl] at h1
      refine ⟨by rw [r.length]; exact hl, fun p hp => ?_⟩
      exact h1 _ G1 _ ((R.step s1 o1).setOwn (Step.newH hp) (o1.newH hp) i (.inl hp) upd_same (o1.free hp) (o1.nb hp) r) s1.exG
    · rw [if_neg hl] at h1; exact h1.elim
/-- what the slot's list is -/
theorem own_at {K : Fg} {w : Wd} {G0 H0 : Hp} {σ : L2.St} {env : EnvM} {G H : Hp} {B : Bag} {i : Nat} {xs : List PD} (R : Rel K w G0 H0 σ env G H B) (e : env[i]? = some (some (.own xs))) : ∃ p vs, σ[i]? = some (some (.ref p)) ∧ G p = none ∧ NN (H0 p) ∧ Nb w p ∧ H p = some (.lst vs) ∧ DRs K G vs xs := by
  obtain ⟨v, h1, p, vs, rfl, h2⟩ := R.slot i _ e
  exact ⟨p, vs, h1, h2⟩
/-- len(x), x one's own -/
def mLenOwn (i : Nat) : EnvM → Bag → Res PD := fun env B => match env[i]? with
  | some (some (.own xs)) => .ok (.int (xs.length : Int)) B
  | _ => .bad
theorem ed_lenOwn (i : Nat) {x : Str} {p1 p pos : Pos} (hm : X.mg "len" = none) (hg : Gl X "len" := by rfl) (hN : X.N[i]? = some x := by rfl) (hv : Vis X.env.scope x := by first | exact Or.inl rfl | exact Or.inr (Or.inl rfl) | exact Or.inr (Or.inr rfl)) (hd : (x == ("__debug__" : Str)) = false := by decide)
    (hcd : (x == ("__classdict__" : Str)) = false := by decide) (hs : starEach [.Name x p1] X.env = (false, eval (.Name x p1) X.env) :: starEach [] X.env := by rfl) (hpl : (backTo pos (starEach [] X.env)).any (·.1) = false := by rfl) :
    ED X W (.Call (.Name "len" p) [.Name x p1] [] pos) (tCB (fun xs H Q => ∃ x n, xs = [x] ∧ LenV X.K x H n ∧ Q (.int n) H) (tCons (tVar i) tNil)) (mLenOwn i) := by
  refine ⟨pe_callB call_len hg hm PySem.boot_len (pa_cons (pe_var hN hv hd hcd) pa_nil hs) (by decide) (by decide) hs hpl, fun w G0 H0 σ env G H B Q R h => ?_⟩
  unfold mLenOwn at h
  split at h
  · rename_i xs q
    obtain ⟨p, vs, h1, _, _, _, hp, r⟩ := own_at R q
    exact ⟨_, h1, _, _, rfl, .inl ⟨vs, SqL.of hp, rfl⟩, by rw [r.length]; exact h _ G H Step.refl R.ok (.int _)⟩
  · exact h.elim
/-- x[e], x one's own -/
def mIxOwn (i : Nat) (m : EnvM → Bag → Res PD) : EnvM → Bag → Res PD := fun env B => match env[i]? with
  | some (some (.own xs)) => (m env B).bind fun d B1 => (match d with
    | .int k => (match atI xs k with
      | some z => .ok z B1
      | none => .bad)
    | _ => .bad)
  | _ => .bad
theorem ed_ixOwn (i : Nat) {x : Str} {e : Expr} {t : TE} {m : EnvM → Bag → Res PD} {p1 pos : Pos} (he : ED X W e t m) (hs : PlainIx e := by exact fun _ _ => rfl) (hN : X.N[i]? = some x := by rfl) (hv : Vis X.env.scope x := by first | exact Or.inl rfl | exact Or.inr (Or.inl rfl) | exact Or.inr (Or.inr rfl)) (hd : (x == ("__debug__" : Str)) = false := by decide)
    (hcd : (x == ("__classdict__" : Str)) = false := by decide) : ED X W (.Subscript (.Name x p1) e pos) (tOp (rIxL X.K) (tVar i) t) (mIxOwn i m) := by
  refine ⟨pe_ix ix_list (pe_var hN hv hd hcd) he.pe hs, fun w G0 H0 σ env G H B Q R h => ?_⟩
  unfold mIxOwn at h
  split at h
  · rename_i xs q
    obtain ⟨p, vs, h1, g, h0, nb, hp, r⟩ := own_at R q
    refine ⟨_, h1, he.sem w G0 H0 σ env G H B _ R (PostR.bind h fun d B1 v G1 H1 s1 o1 d1 h2 => ?_)⟩
    cases d with
    | int k =>
      have e1 := d1.int_inv
      subst e1
      cases ez : atI xs k with
      | none => simp only [ez] at h2; exact h2.elim
      | some z =>
        simp only [ez] at h2
        obtain ⟨u, a1, a2⟩ := atI_of (r.mono s1.exG) ez
        exact ⟨p, vs, k, u, rfl, rfl, SqL.of (s1.keep p _ nb.one (fun _ z => by cases z) hp), a1, h2 u G1 H1 Step.refl o1 a2⟩
    | _ => exact (show False from h2).elim
  · exact h.elim
/-- x.append(e) -/
def mApp (i : Nat) (m : EnvM → Bag → Res PD) : EnvM → Bag → SRes := fun env B => match env[i]? with
  | some (some (.own xs)) => (m env B).s env fun d B1 => if xs.length < sizeLine then .nx (env.set i (some (.own (xs ++ [d])))) B1 else .bad
  | _ => .bad
theorem sd_app (i : Nat) {x : Str} {e : Expr} {t : TE} {m : EnvM → Bag → Res PD} {p1 p2 pc pos : Pos} (he : ED X W e t m) (hN : X.N[i]? = some x := by rfl) (hv : Vis X.env.scope x := by first | exact Or.inl rfl | exact Or.inr (Or.inl rfl) | exact Or.inr (Or.inr rfl)) (hd : (x == ("__debug__" : Str)) = false := by decide)
    (hcd : (x == ("__classdict__" : Str)) = false := by decide) (hpe : PE X (.Call (.Attribute (.Name x p1) "append" p2) [e] [] pc) (tBM X.K "list" rAppend (tVar i) (tCons t tNil)))
    (hs : swapsWith (.Call (.Attribute (.Name x p1) "append" p2) [e] [] pc) none pos.line X.env = pure false := by rfl) :
    SD X W (.Expr (.Call (.Attribute (.Name x p1) "append" p2) [e] [] pc) pos) (tDrop (tBM X.K "list" rAppend (tVar i) (tCons t tNil))) (mApp i m) := by
  refine ⟨ps_expr hpe hs, fun w G0 H0 σ env G H B D R h => ?_⟩
  unfold mApp at h
  split at h
  · rename_i xs q
    obtain ⟨p, vs, h1, g, h0, nb, hp, r⟩ := own_at R q
    refine ⟨_, h1, .inl ⟨rfl, _, SqL.of hp⟩, ?_⟩
    refine he.sem w G0 H0 σ env G H B _ R (PostS.bind R (Sub.refl _) h fun d B1 v G1 H1 s1 o1 d1 h2 => ?_)
    by_cases hl : xs.length < sizeLine
    · rw [if_pos hl] at h2
      have R1 := R.step s1 o1
      obtain ⟨p', vs', g1, g2, g3, g4, g5, g6⟩ := own_at R1 q
      rw [h1] at g1
      cases g1
      have hpp := s1.keep p _ nb.one (fun _ z => by cases z) hp
      rw [hpp] at g5
      cases g5
      exact ⟨p, vs, v, rfl, rfl, hpp, by rw [r.length]; exact hl, h2 σ G1 _ (R1.upOwn i q h1 hpp (g6.append (.cons d1 .nil)) g2 g3 g4) s1.exG⟩
    · rw [if_neg hl] at h2; exact h2.elim
  · exact h.elim
/-- x.extend(e), e a list -/
def mExt (i : Nat) (m : EnvM → Bag → Res PD) : EnvM → Bag → SRes := fun env B => match env[i]? with
  | some (some (.own xs)) => (m env B).s env fun d B1 => (match d with
    | .list ys => if xs.length + ys.length ≤ sizeLine then .nx (env.set i (some (.own (xs ++ ys)))) B1 else .bad
    | _ => .bad)
  | _ => .bad
theorem sd_ext (i : Nat) {x : Str} {e : Expr} {t : TE} {m : EnvM → Bag → Res PD} {p1 p2 pc pos : Pos} (he : ED X W e t m) (hN : X.N[i]? = some x := by rfl) (hv : Vis X.env.scope x := by first | exact Or.inl rfl | exact Or.inr (Or.inl rfl) | exact Or.inr (Or.inr rfl)) (hd : (x == ("__debug__" : Str)) = false := by decide)
    (hcd : (x == ("__classdict__" : Str)) = false := by decide) (hpe : PE X (.Call (.Attribute (.Name x p1) "extend" p2) [e] [] pc) (tBM X.K "list" rExtend (tVar i) (tCons t tNil)))
    (hs : swapsWith (.Call (.Attribute (.Name x p1) "extend" p2) [e] [] pc) none pos.line X.env = pure false := by rfl) :
    SD X W (.Expr (.Call (.Attribute (.Name x p1) "extend" p2) [e] [] pc) pos) (tDrop (tBM X.K "list" rExtend (tVar i) (tCons t tNil))) (mExt i m) := by
  refine ⟨ps_expr hpe hs, fun w G0 H0 σ env G H B D R h => ?_⟩
  unfold mExt at h
  split at h
  · rename_i xs q
    obtain ⟨p, vs, h1, g, h0, nb, hp, r⟩ := own_at R q
    refine ⟨_, h1, .inl ⟨rfl, _, SqL.of hp⟩, ?_⟩
    refine he.sem w G0 H0 σ env G H B _ R (PostS.bind R (Sub.refl _) h fun d B1 v G1 H1 s1 o1 d1 h2 => ?_)
    cases d with
    | list ys =>
      cases d1 with
      | lst hx ry =>
        rename_i a us
        by_cases hl : xs.length + ys.length ≤ sizeLine
        · simp only [if_pos hl] at h2
          have R1 := R.step s1 o1
          obtain ⟨p', vs', g1, g2, g3, g4, g5, g6⟩ := own_at R1 q
          rw [h1] at g1
          cases g1
          have hpp := s1.keep p _ nb.one (fun _ z => by cases z) hp
          rw [hpp] at g5
          cases g5
          exact ⟨p, a, vs, us, rfl, rfl, hpp, o1.sub _ _ hx, by rw [r.length, ry.length]; exact hl, h2 σ G1 _ (R1.upOwn i q h1 hpp (g6.append ry) g2 g3 g4) s1.exG⟩
        · simp only [if_neg hl] at h2; exact h2.elim
    | _ => exact (show False from h2).elim
  · exact h.elim

/-! ### list(zip(a, b)) -/
def zipP : List PD → Option PD
  | [.list xs, .list ys] => if xs.length = ys.length then some (.list (List.zipWith (fun x y => .tuple [x, y]) xs ys)) else none
  | [.tuple xs, .tuple ys] => if xs.length = ys.length then some (.list (List.zipWith (fun x y => .tuple [x, y]) xs ys)) else none
  | _ => none
def withNew (G H1 H2 : Hp) : Hp := fun c => match H1 c with
  | some _ => G c
  | none => H2 c
theorem pairs_dr {K : Fg} {G : Hp} : ∀ {Ts : List Addr} {xs ys : List V} {ds es : List PD}, DRs K G xs ds → DRs K G ys es → xs.length = ys.length → Ts.length = xs.length →
    (∀ (j : Nat) (T : Addr) (x y : V), Ts[j]? = some T → xs[j]? = some x → ys[j]? = some y → ∃ ob : Obj, G T = some (.frz ob (.tup [x, y])) ∧ ob.dict = none) → DRs K G (Ts.map V.ref) (List.zipWith (fun x y => .tuple [x, y]) ds es)
  | [], _, _, _, _, .nil, .nil, _, _, _ => .nil
  | T :: Ts, _, _, _, _, .cons hx rx, .cons hy ry, hl, ht, k => by
    obtain ⟨ob, k1, k2⟩ := k 0 T _ _ rfl rfl rfl
    refine .cons (.tup (PT.at k1 k2) (.cons hx (.cons hy .nil))) (pairs_dr rx ry ?_ ?_ fun j T x y e1 e2 e3 => k (j + 1) T x y (by simpa using e1) (by simpa using e2) (by simpa using e3))
    · simpa using hl
    · simpa using ht
  | [], _, _, _, _, .cons _ _, _, _, h, _ => by simp at h
  | _ :: _, _, _, _, _, .nil, _, _, h, _ => by simp at h
  | [], _, _, _, _, .nil, .cons _ _, h, _, _ => by simp at h
  | _ :: _, _, _, _, _, .cons _ _, .nil, h, _, _ => by simp at h
theorem ed_listZip {e e2 : Expr} {t : TA} {m : EnvM → Bag → Res (List SV)} {p0 p pos pos0 : Pos} (hc : X.calm = true) (hm0 : X.mg "list" = none) (hm : X.mg "zip" = none) (ha : AD X W [e, e2] t m) (hg0 : Gl X "list" := by rfl) (hg : Gl X "zip" := by rfl)
    (hs0 : starEach [.Call (.Name "zip" p) [e, e2] [] pos] X.env = (false, eval (.Call (.Name "zip" p) [e, e2] [] pos) X.env) :: starEach [] X.env := by rfl)
    (hs : starEach [e, e2] X.env = (false, eval e X.env) :: starEach [e2] X.env := by rfl) (hpl : (backTo pos (starEach [e2] X.env)).any (·.1) = false := by rfl) :
    ED X W (.Call (.Name "list" p0) [.Call (.Name "zip" p) [e, e2] [] pos] [] pos0) (ZL.tListZip X.K t) (mCa zipP m) := by
  refine ⟨ZL.pe_listZip hc hm0 hm ha.pe hg0 hg hs0 hs hpl, fun w G0 H0 σ env G H B Q R h => ?_⟩
  refine ha.sem w G0 H0 σ env G H B _ R (PostR.bind h fun ss B1 vs G1 H1 s1 o1 d1 h1 => ?_)
  cases eu : unD ss with
  | none => rw [eu] at h1; exact h1.elim
  | some ds =>
    rw [eu] at h1
    have r := d1.un eu
    have h1 : PostE X.K X.mg w G1 H1 (match zipP ds with | some z => .ok z B1 | none => .bad) Q (fun c d H' => W c d σ H') := h1
    have fin : ∀ (xs ys : List V) (es fs : List PD), DRs X.K G1 xs es → DRs X.K G1 ys fs → xs.length = ys.length → PostE X.K X.mg w G1 H1 (.ok (.list (List.zipWith (fun x y => .tuple [x, y]) es fs)) B1) Q (fun c d H' => W c d σ H') →
        ∀ (Ts : List Addr) (l : Addr) (H2 : Hp), Ts.length = xs.length → H1 l = none → (∀ T ∈ Ts, H1 T = none ∧ T ≠ l) → (∀ c o, H1 c = some o → H2 c = some o) → (∀ c o, H2 c = some o → H1 c = some o ∨ (H1 c = none ∧ (c = l ∨ c ∈ Ts))) → H2 l = some (.lst (Ts.map V.ref)) →
        (∀ (j : Nat) (T : Addr) (x y : V), Ts[j]? = some T → xs[j]? = some x → ys[j]? = some y → ∃ ob : Obj, H2 T = some (.frz ob (.tup [x, y])) ∧ ob.dict = none) → Q (.ref l) H2 := by
      intro xs ys es fs rx ry hl hp Ts l H2 tl hn hT old new hlst hpair
      have nw : ∀ c, H1 c = none → withNew G1 H1 H2 c = H2 c := fun c e => by unfold withNew; rw [e]
      have ow : ∀ c o, H1 c = some o → withNew G1 H1 H2 c = G1 c := fun c o e => by unfold withNew; rw [e]
      have st : Step w G1 H1 (withNew G1 H1 H2) H2 := by
        refine ⟨fun c o e => by rw [ow c _ (o1.sub c o e)]; exact e, fun c o e => ?_, fun c o _ _ e => old c o e, fun c o n e => ⟨o, n, old c o e⟩⟩
        cases q : H1 c with
        | none => exact .inr (.inl rfl)
        | some u => rw [ow c u q] at e; exact .inl e
      have o2 : Ok w (withNew G1 H1 H2) H2 B1 := by
        refine ⟨fun c o e => ?_, o1.bag.keep old, fun b l e => ?_, o1.tabs.ext old, fun c ps e => ?_, fun b l e => ?_⟩
        · cases q : H1 c with
          | none => rw [nw c q] at e; exact e
          | some u =>
            rw [ow c u q] at e
            exact old c o (o1.sub c o e)
        · obtain ⟨b1, _, _⟩ := o1.bag b l e
          rw [ow b _ b1]; exact o1.gb b l e
        · cases q : H1 c with
          | none =>
            rw [nw c q] at e
            rcases new c _ e with z | ⟨_, z | z⟩
            · rw [q] at z; cases z
            · subst z; rw [hlst] at e; cases e
            · obtain ⟨j, hj⟩ := List.mem_iff_getElem?.mp z
              have lj := (List.getElem?_eq_some_iff.mp hj).1
              have lj2 : j < xs.length := by omega
              have lj3 : j < ys.length := by omega
              obtain ⟨ob, z1, _⟩ := hpair j c _ _ hj (List.getElem?_eq_getElem lj2) (List.getElem?_eq_getElem lj3)
              rw [z1] at e
              cases e
          | some u => rw [ow c u q] at e; exact o1.gt c ps e
        · obtain ⟨_, _, b3⟩ := o1.bag b l e
          rw [ow l _ b3]; exact o1.gl b l e
      refine hp _ _ _ st o2 (.lst (by rw [nw l hn]; exact hlst) ?_)
      refine pairs_dr (rx.mono st.exG) (ry.mono st.exG) hl tl fun j T x y e1 e2 e3 => ?_
      rw [nw T (hT T (List.mem_iff_getElem?.mpr ⟨j, e1⟩)).1]
      exact hpair j T x y e1 e2 e3
    unfold zipP at h1
    split at h1
    · rename_i z q
      split at q
      · rename_i es fs
        obtain ⟨hl, rfl⟩ := some_if q
        match vs, r with
        | _, .cons (.lst ha1 ra) (.cons (.lst hb1 rb) .nil) =>
          have hl2 : _ := ra.length.trans (hl.trans rb.length.symm)
          exact ⟨_, _, _, _, rfl, .inl ⟨subL o1.sub ha1, subL o1.sub hb1⟩, hl2, fin _ _ _ _ ra rb hl2 h1⟩
      · rename_i es fs
        obtain ⟨hl, rfl⟩ := some_if q
        match vs, r with
        | _, .cons (.tup ha1 ra) (.cons (.tup hb1 rb) .nil) =>
          have hl2 : _ := ra.length.trans (hl.trans rb.length.symm)
          exact ⟨_, _, _, _, rfl, .inr ⟨subT o1.sub ha1, subT o1.sub hb1⟩, hl2, fin _ _ _ _ ra rb hl2 h1⟩
      · cases q
    · exact h1.elim
end
end DL
set_option Elab.async false
set_option linter.all false
set_option maxRecDepth 100000
set_option maxHeartbeats 2000000
/-! DL5: isinstance, comprehensions, defs. -/
namespace DL
open PySem L2 C8
open ZT (PT)
def W0 : WX := fun _ _ _ _ => False
section
variable {X : Cx} {W : WX}
/-! ### isinstance -/
def tyN : PD → String
  | .none => "NoneType"
  | .bool _ => "bool"
  | .int _ => "int"
  | .str _ => "str"
  | .list _ => "list"
  | .tuple _ => "tuple"
  | .dict _ => "dict"
theorem tyX_of {K : Fg} {G H : Hp} {v : V} {d : PD} (s : Sub G H) (r : DR K G v d) : TyX K H v (.type (tyN d)) := by
  cases r with
  | non => exact .base .non
  | bl b => exact .base (.bl b)
  | int i => exact .base (.int i)
  | str x => exact .base (.str x)
  | lst h r => exact .base (.lst (s _ _ h))
  | dct h r => exact .base (.dK (s _ _ h))
  | tup h r =>
    rcases h with ⟨o, h, _⟩ | ⟨o, its, n, h1, h2, _⟩
    · exact .fTuple (s _ _ h)
    · exact .kTuple h1 h2
def isTT (T : String) (d : PD) : Bool := match kitB (tyN d) T with
  | some b => b
  | none => false
def isIntB : PD → Bool
  | .int _ => true
  | .bool _ => true
  | _ => false
def isBoolB : PD → Bool
  | .bool _ => true
  | _ => false
def isStrB : PD → Bool
  | .str _ => true
  | _ => false
def isListB : PD → Bool
  | .list _ => true
  | _ => false
def isTupB : PD → Bool
  | .tuple _ => true
  | _ => false
def isDictB : PD → Bool
  | .dict _ => true
  | _ => false
theorem kit_int : ∀ d : PD, kitB (tyN d) "int" = some (isIntB d)
  | .none => (by decide +kernel : kitB "NoneType" "int" = some false)
  | .bool b => (by decide +kernel : kitB "bool" "int" = some true)
  | .int b => (by decide +kernel : kitB "int" "int" = some true)
  | .str b => (by decide +kernel : kitB "str" "int" = some false)
  | .list b => (by decide +kernel : kitB "list" "int" = some false)
  | .tuple b => (by decide +kernel : kitB "tuple" "int" = some false)
  | .dict b => (by decide +kernel : kitB "dict" "int" = some false)
theorem kit_bool : ∀ d : PD, kitB (tyN d) "bool" = some (isBoolB d)
  | .none => (by decide +kernel : kitB "NoneType" "bool" = some false)
  | .bool b => (by decide +kernel : kitB "bool" "bool" = some true)
  | .int b => (by decide +kernel : kitB "int" "bool" = some false)
  | .str b => (by decide +kernel : kitB "str" "bool" = some false)
  | .list b => (by decide +kernel : kitB "list" "bool" = some false)
  | .tuple b => (by decide +kernel : kitB "tuple" "bool" = some false)
  | .dict b => (by decide +kernel : kitB "dict" "bool" = some false)
theorem kit_str : ∀ d : PD, kitB (tyN d) "str" = some (isStrB d)
  | .none => (by decide +kernel : kitB "NoneType" "str" = some false)
  | .bool b => (by decide +kernel : kitB "bool" "str" = some false)
  | .int b => (by decide +kernel : kitB "int" "str" = some false)
  | .str b => (by decide +kernel : kitB "str" "str" = some true)
  | .list b => (by decide +kernel : kitB "list" "str" = some false)
  | .tuple b => (by decide +kernel : kitB "tuple" "str" = some false)
  | .dict b => (by decide +kernel : kitB "dict" "str" = some false)
theorem kit_list : ∀ d : PD, kitB (tyN d) "list" = some (isListB d)
  | .none => (by decide +kernel : kitB "NoneType" "list" = some false)
  | .bool b => (by decide +kernel : kitB "bool" "list" = some false)
  | .int b => (by decide +kernel : kitB "int" "list" = some false)
  | .str b => (by decide +kernel : kitB "str" "list" = some false)
  | .list b => (by decide +kernel : kitB "list" "list" = some true)
  | .tuple b => (by decide +kernel : kitB "tuple" "list" = some false)
  | .dict b => (by decide +kernel : kitB "dict" "list" = some false)
theorem kit_tuple : ∀ d : PD, kitB (tyN d) "tuple" = some (isTupB d)
  | .none => (by decide +kernel : kitB "NoneType" "tuple" = some false)
  | .bool b => (by decide +kernel : kitB "bool" "tuple" = some false)
  | .int b => (by decide +kernel : kitB "int" "tuple" = some false)
  | .str b => (by decide +kernel : kitB "str" "tuple" = some false)
  | .list b => (by decide +kernel : kitB "list" "tuple" = some false)
  | .tuple b => (by decide +kernel : kitB "tuple" "tuple" = some true)
  | .dict b => (by decide +kernel : kitB "dict" "tuple" = some false)
theorem kit_dict : ∀ d : PD, kitB (tyN d) "dict" = some (isDictB d)
  | .none => (by decide +kernel : kitB "NoneType" "dict" = some false)
  | .bool b => (by decide +kernel : kitB "bool" "dict" = some false)
  | .int b => (by decide +kernel : kitB "int" "dict" = some false)
  | .str b => (by decide +kernel : kitB "str" "dict" = some false)
  | .list b => (by decide +kernel : kitB "list" "dict" = some false)
  | .tuple b => (by decide +kernel : kitB "tuple" "dict" = some false)
  | .dict b => (by decide +kernel : kitB "dict" "dict" = some true)
def mIsi (f : PD → Bool) (m : EnvM → Bag → Res PD) : EnvM → Bag → Res PD := fun env B => (m env B).bind fun d B1 => .ok (.bool (f d)) B1
theorem ed_isi {e : Expr} {t : TE} {m : EnvM → Bag → Res PD} {T : String} {f : PD → Bool} {x : Str} {p p2 pos : Pos} (hf : ∀ d, kitB (tyN d) T = some (f d)) (hm : X.mg "isinstance" = none) (hmT : X.mg x = none) (he : ED X W e t m) (hv : bootBuiltins x = some (.type T)) (hg : Gl X "isinstance" := by rfl) (hgT : Gl X x := by rfl)
    (hn : x ≠ "__name__" := by decide) (hd : (x == ("__debug__" : Str)) = false := by decide)
    (h1 : starEach [e, .Name x p2] X.env = (false, eval e X.env) :: starEach [.Name x p2] X.env := by rfl) (h2 : starEach [.Name x p2] X.env = (false, eval (.Name x p2) X.env) :: starEach [] X.env := by rfl) (hpl : (backTo pos (starEach [.Name x p2] X.env)).any (·.1) = false := by rfl) :
    ED X W (.Call (.Name "isinstance" p) [e, .Name x p2] [] pos) (tCB (rIsi X.K) (tCons t (tCons (tC (.ty T)) tNil))) (mIsi f m) := by
  refine ⟨pe_callB call_isi hg hm PyProof.Rows.boot_isinstance (pa_cons he.pe (pa_cons (pe_bltn hgT hmT hv rfl hn hd) pa_nil h2) h1) (by decide) (by decide) h1 hpl, fun w G0 H0 σ env G H B Q R h => ?_⟩
  refine he.sem w G0 H0 σ env G H B _ R (PostR.bind h fun d B1 v G1 H1 s1 o1 d1 h1 => ?_)
  exact ⟨v, .ty T, _, _, f d, rfl, .ty T, tyX_of o1.sub d1, kit_ty (hf d), h1 _ G1 H1 Step.refl o1 (.bl _)⟩
/-- isinstance(x, (T1, T2)) -/
def mIsi2 (f g : PD → Bool) (m : EnvM → Bag → Res PD) : EnvM → Bag → Res PD := fun env B => (m env B).bind fun d B1 => .ok (.bool (f d || g d)) B1
theorem ed_isi2 {e : Expr} {t : TE} {m : EnvM → Bag → Res PD} {T T' : String} {f g : PD → Bool} {x y : Str} {p p2 p3 pt pos : Pos} {k} (hf : ∀ d, kitB (tyN d) T = some (f d)) (hg' : ∀ d, kitB (tyN d) T' = some (g d)) (hm : X.mg "isinstance" = none) (hmT : X.mg x = none) (hmT' : X.mg y = none) (he : ED X W e t m)
    (hv : bootBuiltins x = some (.type T)) (hv' : bootBuiltins y = some (.type T')) (hg : Gl X "isinstance" := by rfl) (hgT : Gl X x := by rfl) (hgT' : Gl X y := by rfl)
    (hn : x ≠ "__name__" := by decide) (hd : (x == ("__debug__" : Str)) = false := by decide) (hn' : y ≠ "__name__" := by decide) (hd' : (y == ("__debug__" : Str)) = false := by decide)
    (h1 : starEach [e, .Tuple [.Name x p2, .Name y p3] k pt] X.env = (false, eval e X.env) :: starEach [.Tuple [.Name x p2, .Name y p3] k pt] X.env := by rfl)
    (h2 : starEach [.Tuple [.Name x p2, .Name y p3] k pt] X.env = (false, eval (.Tuple [.Name x p2, .Name y p3] k pt) X.env) :: starEach [] X.env := by rfl)
    (h3 : starEach [.Name x p2, .Name y p3] X.env = (false, eval (.Name x p2) X.env) :: starEach [.Name y p3] X.env := by rfl) (h4 : starEach [.Name y p3] X.env = (false, eval (.Name y p3) X.env) :: starEach [] X.env := by rfl)
    (hpl : (backTo pos (starEach [.Tuple [.Name x p2, .Name y p3] k pt] X.env)).any (·.1) = false := by rfl) :
    ED X W (.Call (.Name "isinstance" p) [e, .Tuple [.Name x p2, .Name y p3] k pt] [] pos) (tCB (rIsiT X.K) (tCons t (tCons (tTup (tCons (tC (.ty T)) (tCons (tC (.ty T')) tNil))) tNil))) (mIsi2 f g m) := by
  refine ⟨pe_callB call_isiT hg hm PyProof.Rows.boot_isinstance (pa_cons he.pe (pa_cons (pe_tup (pa_cons (pe_bltn hgT hmT hv rfl hn hd) (pa_cons (pe_bltn hgT' hmT' hv' rfl hn' hd') pa_nil h4) h3)) pa_nil h2) h1) (by decide) (by decide) h1 hpl, fun w G0 H0 σ env G H B Q R h => ?_⟩
  refine he.sem w G0 H0 σ env G H B _ R (PostR.bind h fun d B1 v G1 H1 s1 o1 d1 h1 => ?_)
  refine ⟨(by decide : 2 ≤ sizeLine), fun p hp => ?_⟩
  have s2 : Step w G1 H1 G1 (upd H1 p (.tup [.ty T, .ty T'])) := Step.newH hp
  have o2 := o1.newH (o := .tup [.ty T, .ty T']) hp
  refine ⟨v, p, _, _, _, (f d || g d), rfl, upd_same, .cons (.ty T) (.cons (.ty T') .nil), tyX_of o2.sub d1, ?_, h1 _ G1 _ s2 o2 (.bl _)⟩
  refine kitAny_cons (b := f d) (kit_ty (hf d)) (fun e1 => ?_) fun e1 => by rw [e1]; rfl
  rw [e1, Bool.false_or]
  exact kitAny_cons (b := g d) (kit_ty (hg' d)) (fun e2 => by rw [e2]; exact kitAny_nil) fun e2 => e2

/-! ### freezing -/
theorem Step.notIn {w : Wd} {G H G' H' : Hp} {D : Addr} {o : HO} (s : Step w G H G' H') (g : G D = none) (h : H D = some o) (nt : ∀ ps, o ≠ .tbl ps := by intro _ z; cases z) : G' D = none := by
  cases q : G' D with
  | none => rfl
  | some u =>
    rcases s.fr D u q with z | z
    · rw [g] at z; cases z
    · exact absurd rfl (z.ne h nt)
theorem Step.mutNew {w : Wd} {G1 H1 G H : Hp} {D : Addr} {o : HO} (s : Step w G1 H1 G H) (h : H1 D = none) : Step w G1 H1 G (upd H D o) :=
  ⟨s.exG, s.fr, fun a u n nt q => by rw [upd_ne (ne_of_none q h)]; exact s.keep a u n nt q, fun a u n q => by rw [upd_ne (ne_of_none q h)]; exact s.there a u n q⟩
theorem Step.freeze {w : Wd} {G1 H1 G H : Hp} {D : Addr} {o : HO} (s : Step w G1 H1 G H) (g : G D = none) (h : NN (H1 D)) : Step w G1 H1 (upd G D o) H := by
  refine ⟨fun a u q => ?_, fun a u q => ?_, s.keep, s.there⟩
  · have q1 := s.exG a u q
    rw [upd_ne (ne_of_none q1 g)]; exact q1
  · by_cases e : a = D
    · subst e; exact .inr h
    · rw [upd_ne e] at q; exact s.fr a u q
theorem Ok.freeze {w : Wd} {G H : Hp} {B : Bag} {D : Addr} {o : HO} (k : Ok w G H B) (n : Nb w D) (h : H D = some o) (nt : ∀ ps, o ≠ .tbl ps := by intro _ z; cases z) : Ok w (upd G D o) H B := by
  refine ⟨fun a u q => ?_, k.bag, fun b l e => ?_, k.tabs, gt_upd k.gt nt, fun b l e => ?_⟩
  · by_cases e : a = D
    · subst e; rw [upd_same] at q; cases q; exact h
    · rw [upd_ne e] at q; exact k.sub a u q
  · rw [upd_ne (n.1 b l e).1]; exact k.gb b l e
  · rw [upd_ne (n.1 b l e).2]; exact k.gl b l e
theorem sub_upd {G : Hp} {D : Addr} {o : HO} (g : G D = none) : Sub G (upd G D o) := fun a u q => by rw [upd_ne (ne_of_none q g)]; exact q

/-! ### comprehensions -/
structure TDs (X : Cx) (W : WX) (ifs : List Expr) (t : TT) (m : EnvM → Bag → Res Bool) : Prop where
  pe : PTs X ifs t
  sem : ∀ (w : Wd) (G0 H0 : Hp) (σ : L2.St) (env : EnvM) (G H : Hp) (B : Bag) (Q : Bool → Hp → Prop), Rel X.K w G0 H0 σ env G H B →
    PostT X.K X.mg w G H (m env B) Q (fun c d H' => W c d σ H') → t σ H Q
def mYes : EnvM → Bag → Res Bool := fun _ B => .ok true B
theorem tds_nil : TDs X W [] tYes mYes := ⟨pts_nil, fun w G0 H0 σ env G H B Q R h => h true G H Step.refl R.ok rfl⟩
theorem tds_one {c : Expr} {t : TT} {m : EnvM → Bag → Res Bool} (h : TD X W c t m) : TDs X W [c] t m := ⟨pts_one h.pe, h.sem⟩
theorem wipe_wipe {σ : L2.St} {vs : List Nat} : ∀ us : List Nat, (∀ u ∈ us, u ∈ vs) → wipe (wipe σ us) vs = wipe σ vs
  | [], _ => rfl
  | u :: us, h => by
    show wipe ((wipe σ us).set u none) vs = _
    rw [wipe_set (h u List.mem_cons_self)]
    exact wipe_wipe us fun z hz => h z (List.mem_cons_of_mem _ hz)
def mLcGo (g : PD → EnvM → Option EnvM) (c : EnvM → Bag → Res Bool) (m : EnvM → Bag → Res PD) (env0 : EnvM) : List PD → Bag → Res (List PD)
  | [], B => .ok [] B
  | d :: ds, B => match g d env0 with
    | none => .bad
    | some e1 => match c e1 B with
      | .ok true B1 => (match m e1 B1 with
        | .ok y B2 => (match mLcGo g c m env0 ds B2 with
          | .ok ys B3 => .ok (y :: ys) B3
          | _ => .bad)
        | _ => .bad)
      | .ok false B1 => mLcGo g c m env0 ds B1
      | _ => .bad
def mLc (vs : List Nat) (mi : EnvM → Bag → Res (List PD)) (g : PD → EnvM → Option EnvM) (c : EnvM → Bag → Res Bool) (m : EnvM → Bag → Res PD) : EnvM → Bag → Res PD := fun env B => (mi env B).bind fun ds B1 =>
  if ds.length ≤ sizeLine then (match mLcGo g c m (wipeE env vs) ds B1 with
    | .ok ys B2 => .ok (.list ys) B2
    | _ => .bad) else .bad
/-- the end of a list that is being made -/
def lcEnd (acc : List PD) : Res (List PD) → Res PD
  | .ok ys B => .ok (.list (acc ++ ys)) B
  | _ => .bad
theorem lc_sem {st : Bool} {elt tg iter : Expr} {ifs : List Expr} {scope : Scope} {own : List (Str × Nat)} {wi : TI} {g : TG} {tt : TT} {te : TE} {mi : EnvM → Bag → Res (List PD)} {mgt : PD → EnvM → Option EnvM} {mt : EnvM → Bag → Res Bool} {me : EnvM → Bag → Res PD} {js : List Nat} (hi : WI X W st tg iter wi mi)
    (hg : ∀ (s : Shared) (H : Hp) (C : Addr) (cl : List (Str × Addr)) (fp : List Addr), GT (X.blk s H scope (compEnvC scope cl C X.env) fp) st tg g mgt js) (ht : ∀ (s : Shared) (H : Hp) (C : Addr) (cl : List (Str × Addr)) (fp : List Addr), TDs (X.blk s H scope (compEnvC scope cl C X.env) fp) W0 ifs tt mt)
    (he : ∀ (s : Shared) (H : Hp) (C : Addr) (cl : List (Str × Addr)) (fp : List Addr), ED (X.blk s H scope (compEnvC scope cl C X.env) fp) W0 elt te me) (hjs : ∀ j ∈ js, j ∈ own.map (·.2))
    (w : Wd) (G0 H0 : Hp) (σ : L2.St) (env : EnvM) (G H : Hp) (B : Bag) (Q : VK) (R : Rel X.K w G0 H0 σ env G H B) (h : PostE X.K X.mg w G H (mLc (own.map (·.2)) mi mgt mt me env B) Q (fun c d H' => W c d σ H')) :
    tLc wi g tt te (own.map (·.2)) σ H Q := by
  have gg := hg X.s_0 X.H_0 0 [] []
  have tt' := ht X.s_0 X.H_0 0 [] []
  have ee := he X.s_0 X.H_0 0 [] []
  generalize hvs : own.map (·.2) = vs at *
  refine hi.sem w G0 H0 σ env G H B _ R (PostR.bind h fun ds B1 J G1 H1 s1 o1 wk h1 => ?_)
  by_cases hl : ds.length ≤ sizeLine
  · rw [if_pos hl] at h1
    have R1 := R.step s1 o1
    intro D hD
    have nD : Nb w D := o1.nb hD
    have p0 : PostE X.K X.mg w G1 H1 (lcEnd [] (mLcGo mgt mt me (wipeE env vs) ds B1)) Q (fun c d H' => W c d σ H') := by
      unfold lcEnd
      split at h1
      · exact h1
      · exact h1.elim
    refine ⟨fun i m H => m = ds.length - i ∧ i ≤ ds.length ∧ ∃ G' B acc ac, Step w G1 H1 G' H ∧ Ok w G' H B ∧ G' D = none ∧ H D = some (.lst acc) ∧ DRs X.K G' acc ac ∧ acc.length ≤ i ∧ PostE X.K X.mg w G1 H1 (lcEnd ac (mLcGo mgt mt me (wipeE env vs) (ds.drop i) B)) Q (fun c d H' => W c d σ H'),
      ⟨ds.length, by simp, Nat.zero_le _, G1, B1, [], [], Step.newH hD, o1.newH hD, o1.free hD, upd_same, .nil, Nat.le_refl _, p0⟩, ?_⟩
    rintro i m H2 ⟨rfl, hin, G2, B2, acc, ac, s2, o2, g2, hD2, ra, la, p2⟩
    by_cases hlt : i < ds.length
    · right
      have hd : ds[i]? = some ds[i] := by simp [hlt]
      rw [List.drop_eq_getElem_cons hlt] at p2
      refine ⟨wk.go i H2 _ (Sub.trans s2.exG o2.sub) hd, fun H => ∃ G' B acc ac, Step w G1 H1 G' H ∧ Ok w G' H B ∧ G' D = none ∧ H D = some (.lst acc) ∧ DRs X.K G' acc ac ∧ acc.length ≤ i + 1 ∧ PostE X.K X.mg w G1 H1 (lcEnd ac (mLcGo mgt mt me (wipeE env vs) (ds.drop (i + 1)) B)) Q (fun c d H' => W c d σ H'),
        fun H' q => ⟨ds.length - (i + 1), by omega, rfl, hlt, q⟩, fun x H3 y => ?_⟩
      obtain ⟨G3, s3, o3, d3⟩ := wk.yld i w G2 H2 B2 x H3 _ o2 s2.exG hd y
      unfold mLcGo at p2
      cases q : mgt ds[i] (wipeE env vs) with
      | none => rw [q] at p2; exact p2.elim
      | some env3 =>
        rw [q] at p2
        have s13 := s2.trans s3
        refine gg.sem w G0 H0 (wipe σ vs) (wipeE env vs) G3 H3 B2 x _ env3 _ ((R1.step s13 o3).wipe vs) d3 q fun σ4 R4 w4 => ⟨?_, ?_⟩
        · rw [w4 vs hjs]; exact wipe_wipe vs fun _ z => z
        · cases z : mt env3 B2 with
          | bad => simp only [z] at p2; exact p2.elim
          | exc c as B4 => simp only [z] at p2; exact p2.elim
          | ok b B4 =>
            refine tt'.sem w G0 H0 σ4 env3 G3 H3 B2 _ R4 ?_
            rw [z]
            intro b' G5 H5 s5 o5 eb
            subst eb
            have s15 := s13.trans s5
            have g3 : G3 D = none := s3.notIn g2 hD2
            have hD3 := s3.keep D _ nD.one (fun _ z => by cases z) hD2
            have g5 : G5 D = none := s5.notIn g3 hD3
            have hD5 := s5.keep D _ nD.one (fun _ z => by cases z) hD3
            cases b' with
            | false =>
              simp only [z] at p2
              exact ⟨G5, B4, acc, ac, s15, o5, g5, hD5, (ra.mono s3.exG).mono s5.exG, by omega, p2⟩
            | true =>
              simp only [z] at p2
              cases z2 : me env3 B4 with
              | bad => simp only [z2] at p2; exact p2.elim
              | exc c as B6 => simp only [z2] at p2; exact p2.elim
              | ok y B6 =>
                simp only [z2] at p2
                show te σ4 H5 _
                refine ee.sem w G0 H0 σ4 env3 G5 H5 B4 _ (R4.step s5 o5) ?_
                rw [z2]
                intro yv G7 H7 s7 o7 d7
                have g7 : G7 D = none := s7.notIn g5 hD5
                have hD7 := s7.keep D _ nD.one (fun _ z => by cases z) hD5
                have s17 := s15.trans s7
                refine ⟨acc, hD7, by omega, G7, B6, acc ++ [yv], ac ++ [y], s17.mutNew hD, o7.mut g7 nD (fun _ => by rw [hD7]; exact noCo (fun _ z => by cases z)), g7, upd_same, (((ra.mono s3.exG).mono s5.exG).mono s7.exG).append (.cons d7 .nil), by rw [List.length_append]; simp; omega, ?_⟩
                cases z3 : mLcGo mgt mt me (wipeE env vs) (ds.drop (i + 1)) B6 with
                | bad => simp only [z3] at p2; exact p2.elim
                | exc c as B8 => simp only [z3] at p2; exact p2.elim
                | ok ys B8 =>
                  simp only [z3, lcEnd] at p2 ⊢
                  rw [List.append_assoc]
                  exact p2
    · left
      have e : i = ds.length := by omega
      subst e
      rw [List.drop_length] at p2
      refine ⟨wk.stop _ H2 (Sub.trans s2.exG o2.sub) (Nat.le_refl _), ?_⟩
      have p2 : PostE X.K X.mg w G1 H1 (.ok (.list (ac ++ [])) B2) Q (fun c d H' => W c d σ H') := p2
      rw [List.append_nil] at p2
      exact p2 _ (upd G2 D (.lst acc)) H2 (s2.freeze g2 (.inl hD)) (o2.freeze nD hD2) (.lst upd_same (ra.mono (sub_upd g2)))
  · rw [if_neg hl] at h1; exact h1.elim
theorem ed_lc {st : Bool} {elt tg iter : Expr} {ifs : List Expr} {scope : Scope} (own : List (Str × Nat)) {pos : Pos} {wi : TI} {g : TG} {tt : TT} {te : TE} {mi : EnvM → Bag → Res (List PD)} {mgt : PD → EnvM → Option EnvM} {mt : EnvM → Bag → Res Bool} {me : EnvM → Bag → Res PD} {js : List Nat} (hc : X.calm = true) (hN : X.N.Nodup) (hi : WI X W st tg iter wi mi)
    (hg : ∀ (s : Shared) (H : Hp) (C : Addr) (cl : List (Str × Addr)) (fp : List Addr), GT (X.blk s H scope (compEnvC scope cl C X.env) fp) st tg g mgt js) (ht : ∀ (s : Shared) (H : Hp) (C : Addr) (cl : List (Str × Addr)) (fp : List Addr), TDs (X.blk s H scope (compEnvC scope cl C X.env) fp) W0 ifs tt mt)
    (he : ∀ (s : Shared) (H : Hp) (C : Addr) (cl : List (Str × Addr)) (fp : List Addr), ED (X.blk s H scope (compEnvC scope cl C X.env) fp) W0 elt te me) (ok : blkC X.N X.env.scope scope own = true := by rfl) (hjs : ∀ j ∈ js, j ∈ own.map (·.2) := by decide) (hs : ∀ x, foldedSetIterable iter X.env x = pure x := by intro _; rfl) :
    ED X W (.ListComp elt [⟨tg, iter, ifs, 0⟩] scope pos) (tLc wi g tt te (own.map (·.2))) (mLc (own.map (·.2)) mi mgt mt me) :=
  ⟨pe_lc hc hN hi.pe (blkOk_by ok) (fun s H C cl fp => (hg s H C cl fp).pg) (fun s H C cl fp => (ht s H C cl fp).pe) (fun s H C cl fp => (he s H C cl fp).pe) hs, lc_sem hi hg ht he hjs⟩
theorem sd_setLc {st : Bool} (i : Nat) {y : Str} {py : Pos} {elt tg iter : Expr} {ifs : List Expr} {scope : Scope} (own : List (Str × Nat)) {pos spos : Pos} {wi : TI} {g : TG} {tt : TT} {te : TE} {mi : EnvM → Bag → Res (List PD)} {mgt : PD → EnvM → Option EnvM} {mt : EnvM → Bag → Res Bool} {me : EnvM → Bag → Res PD} {js : List Nat} (hc : X.calm = true) (hN : X.N.Nodup) (hi : WI X W st tg iter wi mi)
    (hg : ∀ (s : Shared) (H : Hp) (C : Addr) (cl : List (Str × Addr)) (fp : List Addr), GT (X.blk s H scope (compEnvC scope cl C X.env) fp) st tg g mgt js) (ht : ∀ (s : Shared) (H : Hp) (C : Addr) (cl : List (Str × Addr)) (fp : List Addr), TDs (X.blk s H scope (compEnvC scope cl C X.env) fp) W0 ifs tt mt)
    (he : ∀ (s : Shared) (H : Hp) (C : Addr) (cl : List (Str × Addr)) (fp : List Addr), ED (X.blk s H scope (compEnvC scope cl C X.env) fp) W0 elt te me) (ok : blkC X.N X.env.scope scope own = true := by rfl) (hjs : ∀ j ∈ js, j ∈ own.map (·.2) := by decide) (hs : ∀ x, foldedSetIterable iter X.env x = pure x := by intro _; rfl)
    (hy : X.N[i]? = some y := by rfl) (hyl : X.env.scope.names.lookup y = some .local := by rfl) (hsw : swapsWith (.ListComp elt [⟨tg, iter, ifs, 0⟩] scope pos) (some (.Name y py)) spos.line X.env = pure true := by rfl) :
    SD X W (.Assign [.Name y py] (.ListComp elt [⟨tg, iter, ifs, 0⟩] scope pos) spos) (tAsg (tLc wi g tt te (own.map (·.2))) (gName i)) (mSet (mgName i) (mLc (own.map (·.2)) mi mgt mt me)) := by
  refine ⟨ps_setLc hc hN hy hyl hsw hi.pe (blkOk_by ok) (fun s H C cl fp => (hg s H C cl fp).pg) (fun s H C cl fp => (ht s H C cl fp).pe) (fun s H C cl fp => (he s H C cl fp).pe) hs, fun w G0 H0 σ env G H B D R h => ?_⟩
  refine lc_sem hi hg ht he hjs w G0 H0 σ env G H B _ R (PostS.bind R (Sub.refl _) h fun d B1 v G1 H1 s1 o1 d1 h1 => ?_)
  exact h1 _ G1 H1 ((R.step s1 o1).set i d1) s1.exG

/-! ### a list of one's own becomes data -/
def frz (i : Nat) (env : EnvM) : EnvM := match env[i]? with
  | some (some (.own xs)) => env.set i (some (.d (.list xs)))
  | _ => env
def mFrz (i : Nat) (m : EnvM → Bag → SRes) : EnvM → Bag → SRes := fun env B => m (frz i env) B
theorem Rel.freeze {K : Fg} {w : Wd} {G0 H0 : Hp} {σ : L2.St} {env : EnvM} {G H : Hp} {B : Bag} (R : Rel K w G0 H0 σ env G H B) (i : Nat) : ∃ G', Sub G G' ∧ Rel K w G0 H0 σ (frz i env) G' H B := by
  unfold frz
  split
  · rename_i xs q
    obtain ⟨p, vs, h1, g, h0, nb, hp, r⟩ := own_at R q
    have sg : Sub G (upd G p (.lst vs)) := sub_upd g
    refine ⟨upd G p (.lst vs), sg, ?_⟩
    have hi : i < env.length := (List.getElem?_eq_some_iff.mp q).1
    refine ⟨R.ok.freeze nb hp, R.ent.freeze g h0, by rw [List.length_set]; exact R.len, fun j sv ej => ?_, fun j k sj sk z hjk ej oj ek ok => ?_, R.wk⟩
    · by_cases hij : i = j
      · subst hij
        rw [List.getElem?_set_self hi] at ej
        cases ej
        exact ⟨_, h1, .lst upd_same (r.mono sg)⟩
      · rw [List.getElem?_set_ne hij] at ej
        obtain ⟨v, e1, e2⟩ := R.slot j sv ej
        refine ⟨v, e1, ?_⟩
        cases sv with
        | d x => exact DR.mono sg e2
        | bag => exact e2
        | own ys =>
          obtain ⟨p', us, e3, g', h0', hb', hp', r'⟩ := e2
          subst e3
          have npp : p' ≠ p := fun z => by
            subst z
            exact R.dist i j _ _ p' hij q rfl ej rfl h1 e1
          exact ⟨p', us, rfl, by rw [upd_ne npp]; exact g', h0', hb', hp', r'.mono sg⟩
        | ownD ys =>
          obtain ⟨p', us, e3, g', h0', hb', hp', r'⟩ := e2
          subst e3
          have npp : p' ≠ p := fun z => by
            subst z
            exact R.dist i j _ _ p' hij q rfl ej rfl h1 e1
          exact ⟨p', us, rfl, by rw [upd_ne npp]; exact g', h0', hb', hp', r'.mono sg⟩
    · have back : ∀ (j : Nat) (sj : SV), (env.set i (some (.d (.list xs))))[j]? = some (some sj) → sj.isOwn = true → env[j]? = some (some sj) := fun j sj ej oj => by
        by_cases hij : i = j
        · subst hij
          rw [List.getElem?_set_self hi] at ej
          cases ej; cases oj
        · rw [List.getElem?_set_ne hij] at ej; exact ej
      exact R.dist j k sj sk z hjk (back j sj ej oj) oj (back k sk ek ok) ok
  · exact ⟨G, Sub.refl G, R⟩
theorem sds_frz (i : Nat) {sts : List Stmt} {t : TS} {m : EnvM → Bag → SRes} (h : SDs X W sts t m) : SDs X W sts t (mFrz i m) := by
  refine ⟨h.pe, fun w G0 H0 σ env G H B D R hp => ?_⟩
  obtain ⟨G', s, R'⟩ := R.freeze i
  exact h.sem w G0 H0 σ (frz i env) G' H B D R' (PostS.sub s hp)

/-! ### defs -/
def SpF (K : Fg) (mg : Str → Option Value) (np : Nat) (m : List SV → Bag → Res PD) : Sp := fun vs H Q E => vs.length = np ∧ ∃ (w : Wd) (G : Hp) (B : Bag) (ss : List SV), Ok w G H B ∧ w.tb = TK K ∧ ARs K w G vs ss ∧ PostE K mg w G H (m ss B) Q (fun _ _ _ => False)
theorem ARs.length {K : Fg} {w : Wd} {G : Hp} : ∀ {vs : List V} {ss : List SV}, ARs K w G vs ss → vs.length = ss.length
  | _, _, .nil => rfl
  | _, _, .cons _ r => by rw [List.length_cons, List.length_cons, ARs.length r]
theorem ARs.get {K : Fg} {w : Wd} {G : Hp} : ∀ {vs : List V} {ss : List SV} {i : Nat} {s : SV}, ARs K w G vs ss → ss[i]? = some s → ∃ v, vs[i]? = some v ∧ AR K w G v s
  | _, _, _, _, .nil, h => by simp at h
  | _, _, 0, _, .cons (v := v) h r, e => by
    rw [List.getElem?_cons_zero] at e
    cases e
    exact ⟨v, by rw [List.getElem?_cons_zero], h⟩
  | _, _, i + 1, _, .cons h r, e => by
    rw [List.getElem?_cons_succ] at e
    obtain ⟨v, h1, h2⟩ := ARs.get r e
    exact ⟨v, by rw [List.getElem?_cons_succ]; exact h1, h2⟩
def env0 (n : Nat) (ss : List SV) : EnvM := ss.map some ++ List.replicate (n - ss.length) none
def resOf : SRes → Res PD
  | .nx _ B => .ok .none B
  | .ret d B => .ok d B
  | .exc c as _ B => .exc c as B
  | _ => .bad
def mFn (n : Nat) (m : EnvM → Bag → SRes) : List SV → Bag → Res PD := fun ss B => resOf (m (env0 n ss) B)
theorem start_rel {K : Fg} {w : Wd} {G H : Hp} {B : Bag} {N : List Str} {vs : List V} {ss : List SV} (o : Ok w G H B) (wk : w.tb = TK K) (r : ARs K w G vs ss) : Rel K w G H (L2.start N vs) (env0 N.length ss) G H B := by
  have rl := r.length
  have get : ∀ (i : Nat) (sv : SV), (env0 N.length ss)[i]? = some (some sv) → ss[i]? = some sv := fun i sv e => by
    unfold env0 at e
    by_cases hi : i < ss.length
    · rw [List.getElem?_append_left (by simpa using hi), List.getElem?_map] at e
      cases q : ss[i]? with
      | none => rw [q] at e; cases e
      | some s => rw [q] at e; cases e; rfl
    · rw [List.getElem?_append_right (by simpa using hi), List.getElem?_replicate] at e
      split at e <;> cases e
  have noOwn : ∀ (i : Nat) (sv : SV), (env0 N.length ss)[i]? = some (some sv) → sv.isOwn = true → False := fun i sv e ow => by
    obtain ⟨v, _, h2⟩ := r.get (get i sv e)
    cases sv with
    | own xs => exact h2
    | ownD xs => exact h2
    | d x => cases ow
    | bag => cases ow
  refine ⟨o, Step.refl, by unfold env0 L2.start; simp [rl], fun i sv e => ?_, fun i j si sj p _ e1 o1 _ _ => (noOwn i si e1 o1).elim, wk⟩
  have e1 := get i sv e
  obtain ⟨v, h1, h2⟩ := r.get e1
  refine ⟨v, ?_, ?_⟩
  · unfold L2.start
    have hi : i < vs.length := (List.getElem?_eq_some_iff.mp h1).1
    rw [List.getElem?_append_left (by simpa using hi), List.getElem?_map, h1]
    rfl
  · cases sv with
    | d x => exact h2
    | own xs => exact h2.elim
    | bag => exact h2
    | ownD xs => exact h2.elim
abbrev BX (P : Program) (w : World) (K : Fg) (mg : Str → Option Value) (base : Heap) (N : List Str) (x : Str) (st : Stmt) (f : Addr) (cdv : Value) (A : Around) (outer : List Env) (s : Shared) (H : Hp) (E : XK) : Cx := (cxOf C8.CX0 P w K mg base N x (fnScope st) f cdv A outer s H E).nox
theorem def_ok {P : Program} {w : World} {K : Fg} {mg : Str → Option Value} {base : Heap} {x : Str} {st : Stmt} {f : Addr} {fd : FuncData} {N ps : List Str} {k n : Nat} {m : EnvM → Bag → SRes} (F : Def K mg x st f fd) (b : Binds K fd ps []) (S : FnScope N ps (fnScope st)) (hn : n = ps.length)
    (hbody : ∀ (cdv : Value) (A : Around) (outer : List Env) (s : Shared) (H : Hp) (E : XK), Room k (A.deeper (PyProof.Rows.envOfC x (fnScope st) s.heap.objs.size f cdv)) → ∃ t, SDs (BX P w K mg base N x st f cdv A outer s H E) W0 (fnBody st) t m) :
    Cal P w K mg base (k + 1) x (SpF K mg n (mFn N.length m)) [] := by
  subst hn
  refine cal0 F b .nil S (fun vs H Q E h => h.1) fun cdv A outer s H vs Q E hr h => ?_
  obtain ⟨hl, w, G, B, ss, o, wk, r, q⟩ := h
  obtain ⟨t, ht⟩ := hbody cdv A outer s H E hr
  refine ⟨t, ht.pe, ht.sem w G H (L2.start N vs) (env0 N.length ss) G H B _ (start_rel o wk r) ?_⟩
  unfold mFn at q
  cases e : m (env0 N.length ss) B with
  | nx env' B' => rw [e] at q; exact fun σ' G' H' R' s' => q .non G' H' R'.ent R'.ok .non
  | ret d B' => rw [e] at q; exact q
  | exc c as e1 B' => rw [e] at q; exact fun σ' cls dd fs G' H' m R' _ d f => q cls dd fs G' H' m R'.ent R'.ok d f
  | bk env' B' => rw [e] at q; exact q.elim
  | ct env' B' => rw [e] at q; exact q.elim
  | bad => rw [e] at q; exact q.elim
def mCall (np : Nat) (m : List SV → Bag → Res PD) (ma : EnvM → Bag → Res (List SV)) : EnvM → Bag → Res PD := fun env B => (ma env B).bind fun ss B1 => if ss.length = np then (match m ss B1 with
  | .ok d B2 => .ok d B2
  | _ => .bad) else .bad
theorem ed_def {k j np : Nat} {x : Str} {e : Expr} {es : List Expr} {t : TA} {m : List SV → Bag → Res PD} {ma : EnvM → Bag → Res (List SV)} {p pos : Pos} (c : Cal X.prog X.w X.K X.mg X.base k x (SpF X.K X.mg np m) []) (hr : Room j X.A) (hk : k ≤ j) (ha : AD X W (e :: es) t ma) (hg : Gl X x := by rfl)
    (hdb : (x == ("__debug__" : Str)) = false := by decide) (he : starEach (e :: es) X.env = (false, eval e X.env) :: starEach es X.env := by rfl) (hpl : (backTo pos (starEach es X.env)).any (·.1) = false := by rfl) :
    ED X W (.Call (.Name x p) (e :: es) [] pos) (tCall (SpF X.K X.mg np m) [] C8.E0 t) (mCall np m ma) := by
  refine ⟨pe_c c hr hk hg ha.pe hdb he hpl, fun w G0 H0 σ env G H B Q R h => ?_⟩
  refine ha.sem w G0 H0 σ env G H B _ R (PostR.bind h fun ss B1 vs G1 H1 s1 o1 d1 h1 => ?_)
  rw [List.append_nil]
  by_cases hl : ss.length = np
  · rw [if_pos hl] at h1
    refine ⟨by rw [d1.length]; exact hl, w, G1, B1, ss, o1, R.wk, d1, ?_⟩
    cases z : m ss B1 with
    | ok d B2 => rw [z] at h1; exact h1
    | exc c as B2 => rw [z] at h1; exact h1.elim
    | bad => rw [z] at h1; exact h1.elim
  · rw [if_neg hl] at h1; exact h1.elim
end
end DL
set_option Elab.async false
set_option linter.all false
set_option maxRecDepth 100000
set_option maxHeartbeats 2000000
/-! DL6: the rules whose transformer names the fragment, with the fragment given (so that they serve within a comprehension's block). -/
namespace DL
open PySem L2 C8
open ZT (PT)
abbrev rLenK (K : Fg) : List V → Hp → VK → Prop := fun xs H Q => ∃ x n, xs = [x] ∧ LenV K x H n ∧ Q (.int n) H
abbrev rAbs : List V → Hp → VK → Prop := fun xs H Q => ∃ i, xs = [.int i] ∧ Q (.int (if i < 0 then -i else i)) H
abbrev rInt1 : List V → Hp → VK → Prop := fun xs H Q => (∃ i, xs = [.int i] ∧ Q (.int i) H) ∨ ∃ k, xs = [.bl k] ∧ Q (.int (if k then 1 else 0)) H
abbrev rListK (K : Fg) : List V → Hp → VK → Prop := fun xs H Q => ∃ p ys, xs = [.ref p] ∧ (SqL K H p ys ∨ SqT K H p ys) ∧ ∀ l, H l = none → Q (.ref l) (upd H l (.lst ys))
abbrev rTupleK (K : Fg) : List V → Hp → VK → Prop := ZT.rTupleP K
section
variable {X : Cx} {W : WX}
theorem td_truK (K : Fg) {t : TE} {e : Expr} {m : EnvM → Bag → Res PD} (h : ED X W e t m) (he : ∀ whole, isTrue e X.env whole = (do let v ← whole; standAt e.pos; holding [v] (truthy v)) := by intro _; rfl) (hK : X.K = K := by rfl) : TD X W e (tTruth K t) (mTru truP m) := by
  subst hK; exact td_tru h he
theorem ed_addK (K : Fg) {a b : Expr} {ta tb : TE} {ma mb : EnvM → Bag → Res PD} {pos : Pos} (ha : ED X W a ta ma) (hb : ED X W b tb mb) (hK : X.K = K := by rfl) : ED X W (.BinOp a .Add b pos) (tOp (rAddU K) ta tb) (mOp addP ma mb) := by
  subst hK; exact ed_add ha hb
theorem ed_ixK (K : Fg) {a b : Expr} {ta tb : TE} {ma mb : EnvM → Bag → Res PD} {pos : Pos} (ha : ED X W a ta ma) (hb : ED X W b tb mb) (hs : PlainIx b := by exact fun _ _ => rfl) (hK : X.K = K := by rfl) : ED X W (.Subscript a b pos) (tOp (rIx K) ta tb) (mOp ixP ma mb) := by
  subst hK; exact ed_ix ha hb hs
theorem ed_sliceK (K : Fg) {e : Expr} {lo hi : Option Expr} {t : TE} {tl th : TO} {m : EnvM → Bag → Res PD} {ml mh : EnvM → Bag → Res (Option Int)} {pos p2 : Pos} (he : ED X W e t m) (hl : OD X W lo tl ml) (hh : OD X W hi th mh) (hK : X.K = K := by rfl) :
    ED X W (.Subscript e (.Slice lo hi none p2) pos) (tSl (rSlU K) t tl th) (mSl m ml mh) := by
  subst hK; exact ed_slice he hl hh
theorem ed_isiK (K : Fg) {e : Expr} {t : TE} {m : EnvM → Bag → Res PD} {T : String} {f : PD → Bool} {x : Str} {p p2 pos : Pos} (hf : ∀ d, kitB (tyN d) T = some (f d)) (hm : X.mg "isinstance" = none) (hmT : X.mg x = none) (he : ED X W e t m) (hv : bootBuiltins x = some (.type T)) (hg : Gl X "isinstance" := by rfl) (hgT : Gl X x := by rfl)
    (hn : x ≠ "__name__" := by decide) (hd : (x == ("__debug__" : Str)) = false := by decide)
    (h1 : starEach [e, .Name x p2] X.env = (false, eval e X.env) :: starEach [.Name x p2] X.env := by rfl) (h2 : starEach [.Name x p2] X.env = (false, eval (.Name x p2) X.env) :: starEach [] X.env := by rfl) (hpl : (backTo pos (starEach [.Name x p2] X.env)).any (·.1) = false := by rfl) (hK : X.K = K := by rfl) :
    ED X W (.Call (.Name "isinstance" p) [e, .Name x p2] [] pos) (tCB (rIsi K) (tCons t (tCons (tC (.ty T)) tNil))) (mIsi f m) := by
  subst hK; exact ed_isi hf hm hmT he hv hg hgT hn hd h1 h2 hpl
theorem ed_isi2K (K : Fg) {e : Expr} {t : TE} {m : EnvM → Bag → Res PD} {T T' : String} {f g : PD → Bool} {x y : Str} {p p2 p3 pt pos : Pos} {k} (hf : ∀ d, kitB (tyN d) T = some (f d)) (hg' : ∀ d, kitB (tyN d) T' = some (g d)) (hm : X.mg "isinstance" = none) (hmT : X.mg x = none) (hmT' : X.mg y = none) (he : ED X W e t m)
    (hv : bootBuiltins x = some (.type T)) (hv' : bootBuiltins y = some (.type T')) (hg : Gl X "isinstance" := by rfl) (hgT : Gl X x := by rfl) (hgT' : Gl X y := by rfl)
    (hn : x ≠ "__name__" := by decide) (hd : (x == ("__debug__" : Str)) = false := by decide) (hn' : y ≠ "__name__" := by decide) (hd' : (y == ("__debug__" : Str)) = false := by decide)
    (h1 : starEach [e, .Tuple [.Name x p2, .Name y p3] k pt] X.env = (false, eval e X.env) :: starEach [.Tuple [.Name x p2, .Name y p3] k pt] X.env := by rfl)
    (h2 : starEach [.Tuple [.Name x p2, .Name y p3] k pt] X.env = (false, eval (.Tuple [.Name x p2, .Name y p3] k pt) X.env) :: starEach [] X.env := by rfl)
    (h3 : starEach [.Name x p2, .Name y p3] X.env = (false, eval (.Name x p2) X.env) :: starEach [.Name y p3] X.env := by rfl) (h4 : starEach [.Name y p3] X.env = (false, eval (.Name y p3) X.env) :: starEach [] X.env := by rfl)
    (hpl : (backTo pos (starEach [.Tuple [.Name x p2, .Name y p3] k pt] X.env)).any (·.1) = false := by rfl) (hK : X.K = K := by rfl) :
    ED X W (.Call (.Name "isinstance" p) [e, .Tuple [.Name x p2, .Name y p3] k pt] [] pos) (tCB (rIsiT K) (tCons t (tCons (tTup (tCons (tC (.ty T)) (tCons (tC (.ty T')) tNil))) tNil))) (mIsi2 f g m) := by
  subst hK; exact ed_isi2 hf hg' hm hmT hmT' he hv hv' hg hgT hgT' hn hd hn' hd' h1 h2 h3 h4 hpl
theorem wi_seqK (K : Fg) {tg e : Expr} {t : TE} {m : EnvM → Bag → Res PD} (h : ED X W e t m) (hK : X.K = K := by rfl) : WI X W true tg e (fun σ H R => iList K t σ H R ∨ iTup K t σ H R) (mSeqOf m) := by
  subst hK; exact wi_seq h
theorem gt_tupK {st : Bool} (K : Fg) {es : List Expr} {k : Nat} {g : TGs} {mr : List PD → EnvM → Option EnvM} {js : List Nat} {n : Nat} {pos : Pos} (hc : X.calm = true) (h : GTs X es g mr js)
    (hn : (assignEach es X.env).length = n := by rfl) (hst : (assignEach es X.env).findIdx? (·.1) = none := by rfl) (hK : X.K = K := by rfl) : GT X st (.Tuple es k pos) (gTup K n g) (mgTup mr n) js := by
  subst hK; exact gt_tup hc h hn hst
theorem ed_defK (K : Fg) (mg : Str → Option Value) {k j np : Nat} {x : Str} {e : Expr} {es : List Expr} {t : TA} {m : List SV → Bag → Res PD} {ma : EnvM → Bag → Res (List SV)} {p pos : Pos} (c : Cal X.prog X.w K mg X.base k x (SpF K mg np m) []) (hr : Room j X.A) (hk : k ≤ j) (ha : AD X W (e :: es) t ma) (hg : Gl X x := by rfl)
    (hdb : (x == ("__debug__" : Str)) = false := by decide) (he : starEach (e :: es) X.env = (false, eval e X.env) :: starEach es X.env := by rfl) (hpl : (backTo pos (starEach es X.env)).any (·.1) = false := by rfl) (hK : X.K = K := by rfl) (hM : X.mg = mg := by rfl) :
    ED X W (.Call (.Name x p) (e :: es) [] pos) (tCall (SpF K mg np m) [] C8.E0 t) (mCall np m ma) := by
  subst hK hM; exact ed_def c hr hk ha hg hdb he hpl
theorem ed_ixOwnK (K : Fg) (i : Nat) {x : Str} {e : Expr} {t : TE} {m : EnvM → Bag → Res PD} {p1 pos : Pos} (he : ED X W e t m) (hs : PlainIx e := by exact fun _ _ => rfl) (hN : X.N[i]? = some x := by rfl) (hv : Vis X.env.scope x := by first | exact Or.inl rfl | exact Or.inr (Or.inl rfl) | exact Or.inr (Or.inr rfl)) (hd : (x == ("__debug__" : Str)) = false := by decide)
    (hcd : (x == ("__classdict__" : Str)) = false := by decide) (hK : X.K = K := by rfl) : ED X W (.Subscript (.Name x p1) e pos) (tOp (rIxL K) (tVar i) t) (mIxOwn i m) := by
  subst hK; exact ed_ixOwn i he hs hN hv hd hcd
theorem ed_bagK (K : Fg) (i k : Nat) {x : Str} {j : Nat} {p1 p2 pos : Pos} (hN : X.N[i]? = some x := by rfl) (hv : Vis X.env.scope x := by first | exact Or.inl rfl | exact Or.inr (Or.inl rfl) | exact Or.inr (Or.inr rfl)) (hd : (x == ("__debug__" : Str)) = false := by decide)
    (hcd : (x == ("__classdict__" : Str)) = false := by decide) (hK : X.K = K := by rfl) : ED X W (.Subscript (.Name x p1) (.Constant (.int (k : Int)) j p2) pos) (tOp (rIxL K) (tVar i) (tC (.int (k : Int)))) (mBagIx i k) := by
  subst hK; exact ed_bag i k hN hv hd hcd
theorem ed_listZipK (K : Fg) {e e2 : Expr} {t : TA} {m : EnvM → Bag → Res (List SV)} {p0 p pos pos0 : Pos} (hc : X.calm = true) (hm0 : X.mg "list" = none) (hm : X.mg "zip" = none) (ha : AD X W [e, e2] t m) (hg0 : Gl X "list" := by rfl) (hg : Gl X "zip" := by rfl)
    (hs0 : starEach [.Call (.Name "zip" p) [e, e2] [] pos] X.env = (false, eval (.Call (.Name "zip" p) [e, e2] [] pos) X.env) :: starEach [] X.env := by rfl)
    (hs : starEach [e, e2] X.env = (false, eval e X.env) :: starEach [e2] X.env := by rfl) (hpl : (backTo pos (starEach [e2] X.env)).any (·.1) = false := by rfl) (hK : X.K = K := by rfl) :
    ED X W (.Call (.Name "list" p0) [.Call (.Name "zip" p) [e, e2] [] pos] [] pos0) (ZL.tListZip K t) (mCa zipP m) := by
  subst hK; exact ed_listZip hc hm0 hm ha hg0 hg hs0 hs hpl
end
end DL
set_option Elab.async false
set_option linter.all false
set_option maxRecDepth 100000
set_option maxHeartbeats 4000000
/-! DL7: set(..) of a list or a tuple of ints, t[::-1], len and sorted of a dict comprehension of marks. -/
namespace DL
open PySem PySem.Spec PyProof.Rows L2 HT
section
variable {P : Program} {w : World} {A : Around} {E : Value → Shared → Prop} {s : Shared}
/- the way of the library's rule for a tuple, for a list -/
set_option maxHeartbeats 3200000 in
theorem call_set_lstI {l : Addr} {items : Array Value} (ns : List Int) {Q : Value → Shared → Prop} (hh : A.handled = none) (hl : s.heap.IsList l items) (hit : IntsAre items.toList ns) (hb : ns.length + 1 < scanBound)
    (h : ∀ (h' : Heap) (tk c : Nat), SetR w h' s.heap.objs.size (fun j => decide (j ∈ ns)) c → c ≤ ns.length → (∀ b o, s.heap.get? b = some o → h'.get? b = some o) → Q (.ref s.heap.objs.size) { s with heap := h', toks := tk }) :
    wpAny (model P w) A (call (.type "set") [.ref l]) Q E s := by
  have hisz : items.size = ns.length := by
    have q := IntsAre.length hit
    rw [Array.length_toList] at q
    exact q
  obtain ⟨c, tl, hmro⟩ := F.called_set.mro
  have hmade := F.called_set.made
  have hsub := F.called_set.sub
  refine wpAny_call (codeAny_of_tree ?_)
  show wpAny _ _ (callAny (.type "set") _) _ _ _
  refine wpAny_pure ⟨Code.quiet_builtin _ (by decide +kernel), codeAny_builtin F.entry_type_call ?_⟩
  rw [Around.under_plain (weight_type_call_type "set" [.ref l] []) rfl]
  have h1 := F.called_set.notType
  have h2 := F.called_set.canCreate
  have hct := F.typeCall_set_1 (.ref l)
  repeat (any_goals (first | assumption | wp_step))

  refine codeAny_mono (code_set_led1 (.ref l) (E := E) (Q₁ := fun obj s₁ => obj = .ref s.heap.objs.size ∧ s₁ = { s with heap := s.heap.push { cls := .type "set", dict := none, data := .set #[] 0 (.fresh 0 0 (!w.params.followText "set-order")) } }) ⟨rfl, rfl⟩) fun r s₁ hr => ?_
  cases r with
  | error e => exact hr
  | ok fl =>
    cases fl with
    | ret obj =>
      obtain ⟨rfl, rfl⟩ := hr
      have hS : (s.heap.push { cls := .type "set", dict := none, data := .set #[] 0 (.fresh 0 0 (!w.params.followText "set-order")) }).get? s.heap.objs.size = some { cls := .type "set", dict := none, data := .set #[] 0 (.fresh 0 0 (!w.params.followText "set-order")) } := Heap.get?_push_size _ rfl
      have hT : Shared.TypeIs { s with heap := s.heap.push { cls := .type "set", dict := none, data := .set #[] 0 (.fresh 0 0 (!w.params.followText "set-order")) } } (.ref s.heap.objs.size) "set" := ⟨_, hS, rfl⟩
      have hli := F.called_set.init.lookup
      have hbi := F.called_set.init.bind (.ref s.heap.objs.size)
      repeat (any_goals (first | assumption | wp_step))

      refine codeAny_mono (codeAny_call_builtin (R := wants (fun r s₂ => r = .none ∧ ∃ h' tk c, s₂ = { s with heap := h', toks := tk } ∧ SetR w h' s.heap.objs.size (fun j => decide (j ∈ ns)) c ∧ c ≤ ns.length ∧
          (∀ b o, s.heap.get? b = some o → h'.get? b = some o)) E) F.called_set.init.plain F.entry_set_init (check_set_init_1 hT ?_)) fun r₂ s₂ hr₂ => ?_
      · obtain ⟨ol, hol, hcl, nl, hdl⟩ := hl
        obtain ⟨ocls, odict, odata, oslots⟩ := ol
        simp only at hcl hdl
        subst hcl; subst hdl
        have hol' : (s.heap.push { cls := .type "set", dict := none, data := .set #[] 0 (.fresh 0 0 (!w.params.followText "set-order")) }).get? l = some { cls := .type "list", dict := odict, data := .seq items nl, slots := oslots } := Heap.get?_push_of_some _ hol
        have hsls := F.sub_list_set
        have hslf := F.sub_list_frozenset
        have hne : (Value.type "list" == Value.type "dict") = false := by decide
        have hl1 : (s.heap.push { cls := .type "set", dict := none, data := .set #[] 0 (.fresh 0 0 (!w.params.followText "set-order")) }).IsList l items := ⟨_, hol', rfl, nl, rfl⟩
        unfold Builtin.«set.__init__» noKeywords Builtin.Frozenset.updateFrom
        generalize hPI : pyIter = PI
        wp_walk
        subst hPI

        refine wpAny_pyIter_list hl1 ?_
        refine wpAny_bind (wpAny_runValue ?_)
        have hlS : l < s.heap.objs.size := Heap.lt_size hol
        have hh3 : A.in1.in1.in1.handled = none := by simp [hh]
        have hz1 : (s.heap.push { cls := .type "set", dict := none, data := .set #[] 0 (.fresh 0 0 (!w.params.followText "set-order")) }).objs.size = s.heap.objs.size + 1 := Heap.size_push ..
        have hneI : l ≠ (s.heap.push { cls := .type "set", dict := none, data := .set #[] 0 (.fresh 0 0 (!w.params.followText "set-order")) }).objs.size := by
          rw [Heap.size_push]; exact Nat.ne_of_lt (Nat.lt_succ_of_lt hlS)
        have hSf : s.heap.objs.size ∉ [(s.heap.push { cls := .type "set", dict := none, data := .set #[] 0 (.fresh 0 0 (!w.params.followText "set-order")) }).objs.size, l] := by
          rw [Heap.size_push]; simp only [List.mem_cons, List.mem_singleton, List.not_mem_nil, or_false, not_or]
          exact ⟨Nat.ne_of_lt (Nat.lt_succ_self _), Nat.ne_of_gt hlS⟩
        have hval : ∀ (i : Nat) (v : Value), items[i]? = some v → ∃ k t, ns[i]? = some k ∧ v = .int k t := fun i v hv => by
          have hi : i < ns.length := by rw [← hisz]; exact (Array.getElem?_eq_some_iff.mp hv).1
          obtain ⟨t, e⟩ := PyProof.Rows.IntsAre.int_at hit i v (by rw [Array.getElem?_toList]; exact hv)
          refine ⟨ns[i], t, List.getElem?_eq_getElem hi, ?_⟩
          rw [e, List.getD_eq_getElem?_getD, List.getElem?_eq_getElem hi] <;> rfl
        refine set_update_ints ((PySem.Walks.list hh3 _ l hneI items).toS) s.heap.objs.size
          hSf ns hisz hb hval (items.size - 0) 0 _ (by omega) (Nat.zero_le _)
          ⟨⟨_, Heap.get?_push_size _ rfl, rfl, rfl⟩, (hl1.push _)⟩ ?hS0 ?hR
        case hS0 =>
          have hget : ((s.heap.push { cls := .type "set", dict := none, data := .set #[] 0 (.fresh 0 0 (!w.params.followText "set-order")) }).push { cls := .type "list_iterator", data := .fields #[.ref l, .int 0 0] }).get? s.heap.objs.size
              = some { cls := .type "set", dict := none, data := .set #[] 0 (.fresh 0 0 (!w.params.followText "set-order")) } := Heap.get?_push_of_some _ hS
          exact ⟨0, Nat.le_refl 0, setR_new_at hget⟩
        case hR =>
          intro s' c' hm hc' hS'
          obtain ⟨h', g2, d', tk', os'⟩ := s'
          have eg : g2 = s.gens := hm.gens
          have ed : d' = s.drawn := hm.drawn
          have eo : os' = s.os := hm.os
          subst eg; subst ed; subst eo
          show wpAny _ _ _ _ _ _
          refine wpAny_pure ?_
          show wpAny _ _ (ret Value.none) _ _ _
          rw [hisz] at hc'
          refine wpAny_pure ⟨rfl, h', tk', c', rfl, hS', hc', fun b o e => ?_⟩
          have hb0 : b < s.heap.objs.size := Heap.lt_size e
          have hb1 : b ≠ s.heap.objs.size := Nat.ne_of_lt hb0
          have hb2 : b ≠ (s.heap.push { cls := .type "set", dict := none, data := .set #[] 0 (.fresh 0 0 (!w.params.followText "set-order")) }).objs.size := by
            rw [Heap.size_push]; exact Nat.ne_of_lt (Nat.lt_succ_of_lt hb0)
          exact hm.heap b o (by simp only [List.mem_cons, List.mem_singleton, List.not_mem_nil, or_false, not_or]; exact ⟨hb1, hb2⟩) (Heap.get?_push_of_some _ (Heap.get?_push_of_some _ e))

      · cases r₂ with
        | error e => exact hr₂
        | ok fl₂ =>
          cases fl₂ with
          | ret r =>
            obtain ⟨rfl, h', tk, c', rfl, hS', hc', hk'⟩ := hr₂
            repeat (any_goals (first | assumption | wp_step))
            exact h _ _ _ hS' hc' hk'
          | _ => exact hr₂.elim
    | _ => exact hr.elim

end
/-! ### t[::-1] -/
section
variable {prog : Program} {w : World} {A : Around} {E : Value → Shared → Prop} {s : Shared}
theorem rev_applied {sl : Addr} {vs : Value} {n : Nat} {Q : Int × Int × Nat → Shared → Prop} (hs : s.heap.IsSliceOf sl .none .none vs) (ps : IsPart vs (some (-1)))
    (h : Q ((n : Int) - 1, -1, n) s) : wpAny (model prog w) A (Builtin.Slice.sliceApplied (.ref sl) (pure (n : Int))) Q E s := by
  obtain ⟨os, hos, hcs, hds⟩ := id hs
  unfold Builtin.Slice.sliceApplied Builtin.Slice.sliceFields
  refine wpAny_bind (wpAny_bind (wpAny_field hos hds (x := .none) rfl (wpAny_bind (wpAny_field hos hds (x := .none) rfl (wpAny_bind (wpAny_field hos hds (x := vs) rfl (wpAny_pure ?_)))))))
  refine wpAny_bind (slicePart_ ps ?_)
  show wpAny _ _ (if ((-1 : Int) == 0) = true then _ else _) _ _ s
  rw [if_neg (by decide)]
  refine wpAny_bind (slicePart_ .none (wpAny_bind (slicePart_ .none (wpAny_bind (wpAny_pure ?_)))))
  have e : Builtin.Slice.sliceAdjust none none (-1) (n : Int) = ((n : Int) - 1, -1) := rfl
  show wpAny _ _ (match Builtin.Slice.sliceAdjust none none (-1) (n : Int) with | (lo, hi) => pure (lo, (-1 : Int), Builtin.Slice.slicePlaces lo hi (-1))) _ _ s
  rw [e]
  show wpAny _ _ (pure ((n : Int) - 1, (-1 : Int), Builtin.Slice.slicePlaces ((n : Int) - 1) (-1) (-1))) _ _ s
  have e2 : Builtin.Slice.slicePlaces ((n : Int) - 1) (-1) (-1) = n := by
    unfold Builtin.Slice.slicePlaces
    have h1 : ¬ ((-1 : Int) > 0) := by omega
    simp only [h1, if_false]
    split
    · have : ((n : Int) - 1 - -1 - 1) / (- -1) + 1 = (n : Int) := by
        rw [show (- -1 : Int) = 1 by decide, Int.ediv_one]; omega
      rw [this]; omega
    · omega
  rw [e2]
  exact wpAny_pure h
theorem fm_congr {α β : Type} {f g : α → Option β} : ∀ {l : List α}, (∀ x ∈ l, f x = g x) → l.filterMap f = l.filterMap g
  | [], _ => rfl
  | a :: r, h => by
    rw [List.filterMap_cons, List.filterMap_cons, h a List.mem_cons_self, fm_congr fun x hx => h x (List.mem_cons_of_mem _ hx)]
theorem pick_rev (xs : Array Value) : ((List.range xs.size).filterMap fun (m : Nat) => xs[(((xs.size : Int) - 1) + (m : Int) * (-1)).toNat]?).toArray = xs.toList.reverse.toArray := by
  have h := PySem.W.krv_all xs
  have e : ((List.range xs.size).filterMap fun (m : Nat) => xs[(((xs.size : Int) - 1) + (m : Int) * (-1)).toNat]?) = ((List.range xs.size).map fun k => xs.size - 1 - k).filterMap (xs[·]?) := by
    rw [List.filterMap_map]
    refine fm_congr fun m hm => ?_
    have hm := List.mem_range.mp hm
    show _ = xs[xs.size - 1 - m]?
    have : (((xs.size : Int) - 1) + (m : Int) * (-1)).toNat = xs.size - 1 - m := by omega
    rw [this]
  rw [e, PySem.W.krv_range, List.filterMap_reverse, h]
theorem getItem_tuple_rev {t sl : Addr} {items : Array Value} {vs : Value} {Q : Value → Shared → Prop} (ht : IsTup s.heap t items) (hs : s.heap.IsSliceOf sl .none .none vs) (ps : IsPart vs (some (-1)))
    (h : Q (.ref s.heap.objs.size) { s with heap := s.heap.push { cls := .type "tuple", data := .seq items.toList.reverse.toArray } })
    (hsz : items.size ≤ sizeLine) : wpAny (model prog w) A (getItem (.ref t) (.ref sl)) Q E s := by
  have htake : sizeOk (.seq items.toList.reverse.toArray) := by
    show items.toList.reverse.toArray.size ≤ sizeLine
    rw [List.size_toArray, List.length_reverse, Array.length_toList]
    exact hsz
  obtain ⟨os, hos, hcs, hds⟩ := id hs
  have hTs : s.TypeIs (.ref sl) "slice" := ⟨os, hos, hcs⟩
  unfold getItem
  try with_reducible refine wpAny_holding ?_
  first | refine wpAny_bind (wpAny_pure ?_) | skip
  refine wpAny_bind (wpAny_sequenceKey ht.typeIs (by decide) ?_)
  refine wpAny_bind (wpAny_callSpecial?_slot (name := Str.ofString "__getitem__") ht.typeIs PyProof.Rows.slot_tuple_getitem
    (wpAny_call_entry PyProof.Rows.slot_tuple_getitem ht.typeIs entry_tuple_getitem ?_ (args_tuple_getitem _ _)))
  show wpAny _ _ (Builtin.Tuple.tupleItemsOf (.ref t) >>= _) _ _ s
  refine wpAny_bind (tupleItemsOf_ ht ?_)
  refine wpAny_bind (wpAny_typeOf hTs ?_)
  rw [if_pos (by decide)]
  refine wpAny_bind (rev_applied hs ps ?_)
  have hno : ¬ ((((items.size : Int) - 1) == 0 && (-1 : Int) == 1 && items.size == items.size) = true) := by
    intro q
    rw [Bool.and_eq_true, Bool.and_eq_true] at q
    exact absurd q.1.2 (by decide)
  show wpAny _ _ (if (((items.size : Int) - 1) == 0 && (-1 : Int) == 1 && items.size == items.size) = true then _ else _) _ _ s
  rw [if_neg hno, pick_rev]
  first
    | exact wpAny_bind (m := Builtin.Tuple.tupleExact _) (wpAny_newObj_type (wpAny_pure ⟨_, rfl, wpAny_pure h⟩) htake)
    | exact wpAny_bind (m := Builtin.Tuple.tupleExact _) (wpAny_newObj_type (wpAny_bind (wpAny_pure (wpAny_pure ⟨_, rfl, wpAny_pure h⟩))) htake)
    | exact wpAny_bind (wpAny_bind (m := Builtin.Tuple.tupleExact _) (wpAny_newObj_type (wpAny_pure (wpAny_pure ⟨_, rfl, wpAny_pure h⟩)) htake))
    | exact wpAny_bind (wpAny_bind (m := Builtin.Tuple.tupleExact _) (wpAny_newObj_type (wpAny_pure ⟨_, rfl, wpAny_pure h⟩) htake))
end
section
variable {X : Cx} {W : WX}
def tRevT (K : Fg) (te : TE) : TE := fun σ H Q => te σ H fun x H1 => ∃ a xs, x = .ref a ∧ SqT K H1 a xs ∧ ZT.Mk Q xs.reverse H1
theorem pe_revT {e : Expr} {te : TE} {k : Nat} {p1 p2 p3 pos : Pos} (he : PE X e te) : PE X (.Subscript e (.Slice none none (some (.UnaryOp .USub (.Constant (.int 1) k p1) p2)) p3) pos) (tRevT X.K te) := by
  refine ⟨fun pins s σ H Q I h => ?_⟩
  refine Subscript_ (thn (he.run pins s σ H _ I h) fun v s1 ⟨x, H1, I1, r1, q1⟩ => ?_)
  obtain ⟨a, xs, ex, hx, q⟩ := q1
  subst ex
  cases r1
  have hst : PO X (some (.UnaryOp .USub (.Constant (.int 1) k p1) p2)) (tPart (tUn (rU fun i => .int (-i)) (tC (.int 1)))) := po_some (pe_un un_neg pe_int)
  refine wpAny_Slice (thn (po_none.run pins s1 σ H1 (fun o H2 => o = none ∧ H2 = H1) I1 ⟨rfl, rfl⟩) fun vl s2 ⟨l, H2, I2, pl, el, e2⟩ => ?_)
  subst el e2
  refine thn (po_none.run pins s2 σ H2 (fun o H3 => o = none ∧ H3 = H2) I2 ⟨rfl, rfl⟩) fun vu s3 ⟨u, H3, I3, pu, eu, e3⟩ => ?_
  subst eu e3
  refine thn (hst.run pins s3 σ H3 (fun o H4 => o = some (-1) ∧ H4 = H3) I3 ⟨1, rfl, -1, rfl, rfl, rfl⟩) fun vs s4 ⟨o, H4, I4, ps, eo, e4⟩ => ?_
  subst eo e4
  cases pl; cases pu
  have I5 : Inv X pins σ H4 { s4 with heap := s4.heap.push { cls := .type "slice", data := .fields #[.none, .none, vs] } } := I4.kept (t' := s4.toks) fun b ob q => Heap.get?_push_of_some _ q
  obtain ⟨its, r, ht, hz⟩ := I5.tuple hx
  have hlen := r.length
  show wpAny (model X.prog X.w) X.A (subscriptTail e (.Slice none none (some (.UnaryOp .USub (.Constant (.int 1) k p1) p2)) p3) (.ref a) (.ref s4.heap.objs.size)) (EP X pins σ Q) X.xe { s4 with heap := s4.heap.push { cls := .type "slice", data := .fields #[.none, .none, vs] } }
  refine tail_any (ops := [.ref a, .ref s4.heap.objs.size]) ht.typeIs (PyProof.Rows.slot_tuple_getitem.lookup) ?_ (by with_unfolding_all rfl)
  refine getItem_tuple_rev ht (Heap.IsSliceOf.new _ .none .none vs) ps ?_ (by rw [List.size_toArray]; omega)
  exact ZT.made (s := { s4 with heap := s4.heap.push { cls := .type "slice", data := .fields #[.none, .none, vs] } }) (t' := s4.toks) I5 (fun b ob q => Heap.get?_push_of_some _ q) (Nat.le_refl _) r.reverse (by rw [List.length_reverse]; exact hz) (Heap.get?_push_size _ rfl) q
def mRev (m : EnvM → Bag → Res PD) : EnvM → Bag → Res PD := fun env B => (m env B).bind fun d B1 => match d with
  | .tuple ds => .ok (.tuple ds.reverse) B1
  | _ => .bad
theorem ed_revK (K : Fg) {e : Expr} {te : TE} {m : EnvM → Bag → Res PD} {k : Nat} {p1 p2 p3 pos : Pos} (he : ED X W e te m) (hK : X.K = K := by rfl) : ED X W (.Subscript e (.Slice none none (some (.UnaryOp .USub (.Constant (.int 1) k p1) p2)) p3) pos) (tRevT K te) (mRev m) := by
  subst hK
  refine ⟨pe_revT he.pe, fun w G0 H0 σ env G H B Q R h => ?_⟩
  refine he.sem w G0 H0 σ env G H B _ R (PostR.bind h fun d B1 v G1 H1 s1 o1 d1 h1 => ?_)
  cases d with
  | tuple ds =>
    cases d1 with
    | tup hx r =>
      exact ⟨_, _, rfl, subT o1.sub hx, fun p ob hp hd => h1 _ _ _ (Step.new o1.sub hp) (o1.new hp) (.tup (ZT.PT.new hd) ((r.mono (sub_upd (o1.free hp))).reverse))⟩
  | _ => exact (show False from h1).elim

/-! ### sorted(set(..)) of ints -/
def rSetI (K : Fg) (w : World) : List V → Hp → VK → Prop := fun xs H Q => ∃ (l : Addr) (ns : List Int), xs = [V.ref l] ∧ (SqL K H l (ns.map V.int) ∨ SqT K H l (ns.map V.int)) ∧ ns.length + 1 < scanBound ∧ ∀ (p : Addr) (c : Nat), H p = none → c ≤ ns.length → Q (.ref p) (upd H p (SetO w p (fun j => decide (j ∈ ns)) c))
theorem cr_setI (hc : X.calm = true) : CallR X (.type "set") (rSetI X.K X.w) := by
  intro pins s σ H xs us Q I r h
  obtain ⟨l, ns, rfl, hq, hb, q⟩ := h
  obtain ⟨u, rfl, ru⟩ := r.one
  cases ru
  have hd := I.ok.hd hc
  have fin : ∀ (h' : Heap) (tk c : Nat), SetR X.w h' s.heap.objs.size (fun j => decide (j ∈ ns)) c → c ≤ ns.length → (∀ b o, s.heap.get? b = some o → h'.get? b = some o) → EP X pins σ Q (.ref s.heap.objs.size) { s with heap := h', toks := tk } := fun h' tk c R1 hcn k =>
    ⟨.ref s.heap.objs.size, upd H s.heap.objs.size (SetO X.w s.heap.objs.size (fun j => decide (j ∈ ns)) c), I.laid k (Nat.le_refl _) (setO_new R1), rfl, q _ c (I.hok.fresh (Nat.le_refl _)) hcn⟩
  rcases hq with hq | hq
  · obtain ⟨its, rv, pl, hz⟩ := I.list hq
    exact call_set_lstI ns hd pl.isList (ints_of_vals rv) hb fin
  · obtain ⟨its, rv, pt, hz⟩ := I.tuple hq
    exact call_set_tupI ns hd (show s.heap.IsTuple l its.toArray from pt) (ints_of_vals rv) hb fin
def intsOf : List PD → Option (List Int)
  | [] => some []
  | .int i :: r => (intsOf r).map (i :: ·)
  | _ :: _ => none
theorem intsOf_eq : ∀ {ds : List PD} {ns : List Int}, intsOf ds = some ns → ds = ns.map PyData.int
  | [], ns, h => by cases h; rfl
  | .int i :: r, ns, h => by
    unfold intsOf at h
    cases e : intsOf r with
    | none => rw [e] at h; cases h
    | some ms =>
      rw [e] at h
      cases h
      rw [intsOf_eq e]; rfl
  | .none :: _, _, h => by cases h
  | .bool _ :: _, _, h => by cases h
  | .str _ :: _, _, h => by cases h
  | .list _ :: _, _, h => by cases h
  | .tuple _ :: _, _, h => by cases h
  | .dict _ :: _, _, h => by cases h
/-- the ints of ns, each once, rising -/
def riseI (ns : List Int) : List Int := sortI ns.eraseDups
theorem rise_uniq : ∀ {a b : List Int}, a.Pairwise (· < ·) → b.Pairwise (· < ·) → (∀ k, k ∈ a ↔ k ∈ b) → a = b
  | [], [], _, _, _ => rfl
  | [], y :: b, _, _, h => absurd ((h y).mpr List.mem_cons_self) (by simp)
  | x :: a, [], _, _, h => absurd ((h x).mp List.mem_cons_self) (by simp)
  | x :: a, y :: b, ha, hb, h => by
    obtain ⟨ha1, ha2⟩ := List.pairwise_cons.mp ha
    obtain ⟨hb1, hb2⟩ := List.pairwise_cons.mp hb
    have exy : x = y := by
      rcases List.mem_cons.mp ((h x).mp List.mem_cons_self) with e | e
      · exact e
      · rcases List.mem_cons.mp ((h y).mpr List.mem_cons_self) with e' | e'
        · exact e'.symm
        · have := ha1 y e'; have := hb1 x e; omega
    subst exy
    rw [rise_uniq ha2 hb2 fun k => ⟨fun hk => ?_, fun hk => ?_⟩]
    · rcases List.mem_cons.mp ((h k).mp (List.mem_cons_of_mem _ hk)) with e | e
      · subst e; have := ha1 k hk; omega
      · exact e
    · rcases List.mem_cons.mp ((h k).mpr (List.mem_cons_of_mem _ hk)) with e | e
      · subst e; have := hb1 k hk; omega
      · exact e
theorem rise_mem {ns : List Int} {k : Int} : k ∈ riseI ns ↔ k ∈ ns := by
  unfold riseI sortI
  rw [List.mem_mergeSort, List.mem_eraseDups]
theorem nodup_eraseDups : ∀ (n : Nat) (ns : List Int), ns.length ≤ n → ns.eraseDups.Nodup
  | _, [], _ => by simp
  | 0, x :: r, h => by simp at h
  | n + 1, x :: r, h => by
    rw [List.eraseDups_cons, List.nodup_cons]
    refine ⟨fun q => ?_, nodup_eraseDups n _ (Nat.le_trans (List.length_filter_le _ _) (by simpa using h))⟩
    rw [List.mem_eraseDups, List.mem_filter] at q
    simp at q
theorem rise_lt (ns : List Int) : (riseI ns).Pairwise (· < ·) := by
  have h1 : (riseI ns).Pairwise (fun i j => decide (i ≤ j) = true) := List.pairwise_mergeSort (fun a b c h1 h2 => by simp at *; omega) (fun a b => by simp; omega) _
  have h2 : (riseI ns).Nodup := (List.mergeSort_perm _ _).nodup_iff.mpr (nodup_eraseDups _ ns (Nat.le_refl _))
  refine (h1.and h2).imp fun ⟨a, b⟩ => ?_
  have a := of_decide_eq_true a
  omega
theorem rise_eq {ns ms : List Int} (h : ms.Pairwise (· < ·)) (k : ∀ i, i ∈ ms ↔ i ∈ ns) : ms = riseI ns := rise_uniq h (rise_lt ns) fun i => (k i).trans rise_mem.symm
def mSrtSet (m : EnvM → Bag → Res PD) : EnvM → Bag → Res PD := fun env B => (m env B).bind fun d B1 => match d with
  | .list ds => (match intsOf ds with
    | some ns => if ns.length < 64 then .ok (.list ((riseI ns).map PyData.int)) B1 else .bad
    | none => .bad)
  | .tuple ds => (match intsOf ds with
    | some ns => if ns.length < 64 then .ok (.list ((riseI ns).map PyData.int)) B1 else .bad
    | none => .bad)
  | _ => .bad
def tSrtSet (K : Fg) (w : World) (t : TE) : TE := tCB (rSortedSet w) (tCons (tCB (rSetI K w) (tCons t tNil)) tNil)
theorem ed_srtSetK (K : Fg) (w : World) {e : Expr} {t : TE} {m : EnvM → Bag → Res PD} {p p2 pos pos2 : Pos} (hc : X.calm = true) (hm : X.mg "sorted" = none) (hm2 : X.mg "set" = none) (he : ED X W e t m) (hg : Gl X "sorted" := by rfl) (hg2 : Gl X "set" := by rfl)
    (h1 : starEach [.Call (.Name "set" p2) [e] [] pos2] X.env = (false, eval (.Call (.Name "set" p2) [e] [] pos2) X.env) :: starEach [] X.env := by rfl) (hpl : (backTo pos (starEach [] X.env)).any (·.1) = false := by rfl)
    (h2 : starEach [e] X.env = (false, eval e X.env) :: starEach [] X.env := by rfl) (hpl2 : (backTo pos2 (starEach [] X.env)).any (·.1) = false := by rfl) (hK : X.K = K := by rfl) (hw : X.w = w := by rfl) :
    ED X W (.Call (.Name "sorted" p) [.Call (.Name "set" p2) [e] [] pos2] [] pos) (tSrtSet K w t) (mSrtSet m) := by
  subst hK hw
  refine ⟨pe_callB (cr_sortedSet hc) hg hm (by decide +kernel) (pa_cons (pe_callTy (cr_setI hc) hg2 hm2 (by decide +kernel) (pa_cons he.pe pa_nil h2) (by decide) (by decide) h2 hpl2) pa_nil h1) (by decide) (by decide) h1 hpl, fun w G0 H0 σ env G H B Q R h => ?_⟩
  refine he.sem w G0 H0 σ env G H B _ R (PostR.bind h fun d B1 v G1 H1 s1 o1 d1 h1 => ?_)
  have go : ∀ (l : Addr) (ns : List Int), v = .ref l → (SqL X.K H1 l (ns.map V.int) ∨ SqT X.K H1 l (ns.map V.int)) → ns.length < 64 → PostE X.K X.mg w G1 H1 (.ok (.list ((riseI ns).map PyData.int)) B1) Q (fun c d H' => W c d σ H') → rSetI X.K X.w [v] H1 (fun x H2 => rSortedSet X.w [x] H2 Q) := by
    intro l ns e1 hq hl h2
    subst e1
    refine ⟨l, ns, rfl, hq, by unfold scanBound; omega, fun p c hp hcn => ⟨p, _, c, rfl, upd_same, by omega, fun ms q hms hk hlen hq' => ?_⟩⟩
    have e2 : ms = riseI ns := rise_eq hms fun i => by rw [hk i]; simp
    subst e2
    have s2 : Step w G1 H1 G1 (upd H1 p (SetO X.w p (fun j => decide (j ∈ ns)) c)) := Step.newH hp
    have o2 := o1.newH (o := SetO X.w p (fun j => decide (j ∈ ns)) c) hp
    exact h2 _ _ _ (s2.trans (Step.new o2.sub hq')) (o2.new hq') (.lst upd_same (DRs.ints _))
  cases d with
  | list ds =>
    have h1 : PostE X.K X.mg w G1 H1 (match intsOf ds with | some ns => if ns.length < 64 then .ok (.list ((riseI ns).map PyData.int)) B1 else .bad | none => .bad) Q (fun c d H' => W c d σ H') := h1
    cases e : intsOf ds with
    | none => rw [e] at h1; exact h1.elim
    | some ns =>
      rw [e] at h1
      have h1 : PostE X.K X.mg w G1 H1 (if ns.length < 64 then .ok (.list ((riseI ns).map PyData.int)) B1 else .bad) Q (fun c d H' => W c d σ H') := h1
      by_cases hl : ns.length < 64
      · rw [if_pos hl] at h1
        cases d1 with
        | lst hx r =>
          rw [intsOf_eq e] at r
          rw [r.of_ints] at hx
          exact go _ ns rfl (.inl (subL o1.sub hx)) hl h1
      · rw [if_neg hl] at h1; exact h1.elim
  | tuple ds =>
    have h1 : PostE X.K X.mg w G1 H1 (match intsOf ds with | some ns => if ns.length < 64 then .ok (.list ((riseI ns).map PyData.int)) B1 else .bad | none => .bad) Q (fun c d H' => W c d σ H') := h1
    cases e : intsOf ds with
    | none => rw [e] at h1; exact h1.elim
    | some ns =>
      rw [e] at h1
      have h1 : PostE X.K X.mg w G1 H1 (if ns.length < 64 then .ok (.list ((riseI ns).map PyData.int)) B1 else .bad) Q (fun c d H' => W c d σ H') := h1
      by_cases hl : ns.length < 64
      · rw [if_pos hl] at h1
        cases d1 with
        | tup hx r =>
          rw [intsOf_eq e] at r
          rw [r.of_ints] at hx
          exact go _ ns rfl (.inr (subT o1.sub hx)) hl h1
      · rw [if_neg hl] at h1; exact h1.elim
  | _ => exact (show False from h1).elim
end
end DL
set_option Elab.async false
set_option linter.all false
set_option maxRecDepth 100000
set_option maxHeartbeats 4000000
/-! DL8: len and sorted of {x: True for x in ..}. -/
namespace DL
open PySem L2
open ZT (PT)
section
variable {α : Type} [DecidableEq α]
def addK (l : List α) (k : α) : List α := if k ∈ l then l else l ++ [k]
def dedupK (ks : List α) : List α := ks.foldl addK []
theorem addK_mem {l : List α} {k x : α} : x ∈ addK l k ↔ x ∈ l ∨ x = k := by
  unfold addK
  split
  · rename_i h
    exact ⟨.inl, fun q => q.elim id fun e => by rw [e]; exact h⟩
  · rw [List.mem_append, List.mem_singleton]
theorem addK_nodup {l : List α} {k : α} (h : l.Nodup) : (addK l k).Nodup := by
  unfold addK
  split
  · exact h
  · rename_i q
    rw [List.nodup_append]
    exact ⟨h, by simp, fun a ha b hb e => q (by rw [List.mem_singleton] at hb; rw [← hb, ← e]; exact ha)⟩
theorem foldK_mem : ∀ {ks l : List α} {x : α}, x ∈ ks.foldl addK l ↔ x ∈ l ∨ x ∈ ks
  | [], l, x => by simp
  | k :: ks, l, x => by
    rw [List.foldl_cons, foldK_mem, addK_mem, List.mem_cons, or_assoc]
theorem foldK_nodup : ∀ {ks l : List α}, l.Nodup → (ks.foldl addK l).Nodup
  | [], _, h => h
  | k :: ks, l, h => by
    rw [List.foldl_cons]
    exact foldK_nodup (addK_nodup h)
theorem dedupK_mem {ks : List α} {x : α} : x ∈ dedupK ks ↔ x ∈ ks := by unfold dedupK; rw [foldK_mem]; simp
theorem dedupK_nodup {ks : List α} : (dedupK ks).Nodup := foldK_nodup List.nodup_nil
theorem foldK_len : ∀ (ks l : List α), (ks.foldl addK l).length ≤ l.length + ks.length
  | [], l => by simp
  | k :: ks, l => by
    rw [List.foldl_cons, List.length_cons]
    have := foldK_len ks (addK l k)
    have h2 : (addK l k).length ≤ l.length + 1 := by unfold addK; split <;> simp
    omega
theorem dedupK_len (ks : List α) : (dedupK ks).length ≤ ks.length := by have := foldK_len ks []; simpa [dedupK] using this
end
theorem putK_keys (kvs : List (Key × V)) (k : Key) (v : V) : (putK kvs k v).map (·.1) = addK (kvs.map (·.1)) k := by
  unfold putK addK
  by_cases h : k ∈ kvs.map (·.1)
  · have h1 : (kvs.any fun kv => decide (kv.1 = k)) = true := by
      obtain ⟨p, hp, e⟩ := List.mem_map.mp h
      exact List.any_eq_true.mpr ⟨p, hp, decide_eq_true e⟩
    rw [if_pos h1, if_pos h, List.map_map]
    refine List.map_congr_left fun p _ => ?_
    show (if p.1 = k then (p.1, v) else p).1 = p.1
    split <;> rfl
  · have h1 : ¬ (kvs.any fun kv => decide (kv.1 = k)) = true := fun q => by
      obtain ⟨p, hp, e⟩ := List.any_eq_true.mp q
      exact h (List.mem_map.mpr ⟨p, hp, of_decide_eq_true e⟩)
    rw [if_neg h1, if_neg h, List.map_append]
    rfl
def keyP : PD → Option Key
  | .int i => some (.inl i)
  | .str x => some (.inr x)
  | _ => none
def keysP : List PD → Option (List Key)
  | [] => some []
  | d :: r => match keyP d, keysP r with
    | some k, some ks => some (k :: ks)
    | _, _ => none
theorem keysP_cons {d : PD} {r : List PD} {ks : List Key} (h : keysP (d :: r) = some ks) : ∃ k ks', keyP d = some k ∧ keysP r = some ks' ∧ ks = k :: ks' := by
  unfold keysP at h
  split at h
  · rename_i k ks' e1 e2
    cases h
    exact ⟨k, ks', e1, e2, rfl⟩
  · cases h
theorem keysP_get : ∀ {ds : List PD} {ks : List Key} {i : Nat} {d : PD}, keysP ds = some ks → ds[i]? = some d → ∃ k, ks[i]? = some k ∧ keyP d = some k
  | [], _, _, _, _, e => by simp at e
  | x :: r, ks, 0, d, h, e => by
    obtain ⟨k, ks', h1, h2, rfl⟩ := keysP_cons h
    rw [List.getElem?_cons_zero] at e
    cases e
    exact ⟨k, rfl, h1⟩
  | x :: r, ks, i + 1, d, h, e => by
    obtain ⟨k, ks', h1, h2, rfl⟩ := keysP_cons h
    rw [List.getElem?_cons_succ] at e
    obtain ⟨k', a, b⟩ := keysP_get h2 e
    exact ⟨k', by rw [List.getElem?_cons_succ]; exact a, b⟩
theorem keysP_len : ∀ {ds : List PD} {ks : List Key}, keysP ds = some ks → ks.length = ds.length
  | [], _, h => by cases h; rfl
  | x :: r, ks, h => by
    obtain ⟨k, ks', h1, h2, rfl⟩ := keysP_cons h
    rw [List.length_cons, List.length_cons, keysP_len h2]
theorem keyV {K : Fg} {G : Hp} {v : V} {d : PD} {k : Key} (r : DR K G v d) (h : keyP d = some k) : v = kV k := by
  cases r <;> cases h <;> rfl
section
variable {X : Cx} {W : WX}
def mDc (i : Nat) (mi : EnvM → Bag → Res (List PD)) (f : List Key → Bag → Res PD) : EnvM → Bag → Res PD := fun env B => if i < env.length then (mi env B).bind fun ds B1 => (match keysP ds with
  | some ks => if ks.length ≤ sizeLine then f ks B1 else .bad
  | none => .bad) else .bad
theorem dc_sem (i : Nat) {tg iter : Expr} {wi : TI} {mi : EnvM → Bag → Res (List PD)} {f : List Key → Bag → Res PD} {w : Wd} {G0 H0 : Hp} {σ : L2.St} {env : EnvM} {G H : Hp} {B : Bag} {Q Q' : VK} (hi : WI X W true tg iter wi mi) (R : Rel X.K w G0 H0 σ env G H B)
    (h : PostE X.K X.mg w G H (mDc i mi f env B) Q (fun c d H' => W c d σ H'))
    (hQ : ∀ (ks : List Key) (B1 : Bag) (G1 H1 H2 : Hp) (D : Addr) (kvs : List (Key × V)), PostE X.K X.mg w G1 H1 (f ks B1) Q (fun c d H' => W c d σ H') → Step w G1 H1 G1 H2 → Ok w G1 H2 B1 → H2 D = some (.dK kvs) → kvs.map (·.1) = dedupK ks → Q' (.ref D) H2) :
    tDc wi (gName i) tYes (tVar i) (tC (.bl true)) [i] σ H Q' := by
  unfold mDc at h
  by_cases hlen : i < env.length
  · rw [if_pos hlen] at h
    refine hi.sem w G0 H0 σ env G H B _ R (PostR.bind h fun ds B1 J G1 H1 s1 o1 wk h1 => ?_)
    cases hk : keysP ds with
    | none => simp only [hk] at h1; exact h1.elim
    | some ks =>
      simp only [hk] at h1
      by_cases hl : ks.length ≤ sizeLine
      · rw [if_pos hl] at h1
        have hkl := keysP_len hk
        intro D hD
        have nD : Nb w D := o1.nb hD
        refine ⟨fun j m H => m = ks.length - j ∧ j ≤ ks.length ∧ ∃ kvs, Step w G1 H1 G1 H ∧ Ok w G1 H B1 ∧ H D = some (.dK kvs) ∧ kvs.map (·.1) = dedupK (ks.take j),
          ⟨ks.length, by simp, Nat.zero_le _, [], Step.newH hD, o1.newH hD, upd_same, rfl⟩, ?_⟩
        rintro j m H2 ⟨rfl, hj, kvs, s2, o2, hD2, hkv⟩
        by_cases hlt : j < ks.length
        · right
          have hd : ds[j]? = some ds[j] := by simp [← hkl, hlt]
          obtain ⟨k, e1, e2⟩ := keysP_get hk hd
          refine ⟨wk.go j H2 _ o2.sub hd, fun H => ∃ kvs, Step w G1 H1 G1 H ∧ Ok w G1 H B1 ∧ H D = some (.dK kvs) ∧ kvs.map (·.1) = dedupK (ks.take (j + 1)),
            fun H' q => ⟨ks.length - (j + 1), by omega, rfl, hlt, q⟩, fun x H3 y => ?_⟩
          obtain ⟨G3, s3, o3, d3⟩ := wk.yld j w G1 H2 B1 x H3 _ o2 (Sub.refl _) hd y
          have ex : x = kV k := keyV d3 e2
          have iσ : i < σ.length := by rw [← R.len]; exact hlen
          have e3 : ((wipe σ [i]).set i (some x))[i]? = some (some x) := List.getElem?_set_self (by rw [wipe_length]; exact iσ)
          refine ⟨wipe_set List.mem_cons_self |>.trans (wipe_wipe [i] fun _ z => z), ?_⟩
          refine ⟨x, e3, kvs, k, ex, s3.keep D _ nD.one (fun _ z => by cases z) hD2, ?_, putK kvs k (.bl true), ?_, ?_, upd_same, ?_⟩
          · have : kvs.length ≤ j := by
              have a := congrArg List.length hkv
              rw [List.length_map] at a
              have b := dedupK_len (ks.take j)
              rw [List.length_take] at b
              omega
            omega
          · exact ((s2.trans (show Step w G1 H2 G1 H3 from ⟨fun _ _ z => z, fun _ _ z => .inl z, s3.keep, s3.there⟩)).mutNew hD)
          · exact (show Ok w G1 H3 B1 from ⟨fun a o z => o3.sub a o (s3.exG a o z), o3.bag, o2.gb, o3.tabs, o2.gt, o2.gl⟩).mut (o1.free hD) nD (fun _ => by rw [s3.keep D _ nD.one (fun _ z => by cases z) hD2]; exact noCo (fun _ z => by cases z))
          · rw [putK_keys, hkv]
            unfold dedupK
            rw [List.take_add_one, e1, List.foldl_append]
            rfl
        · left
          have e : j = ks.length := by omega
          subst e
          rw [List.take_length] at hkv
          exact ⟨wk.stop _ H2 o2.sub (by omega), hQ ks B1 G1 H1 H2 D kvs h1 s2 o2 hD2 hkv⟩
      · rw [if_neg hl] at h1; exact h1.elim
  · rw [if_neg hlen] at h; exact h.elim
def mDcLen (i : Nat) (mi : EnvM → Bag → Res (List PD)) : EnvM → Bag → Res PD := mDc i mi fun ks B => .ok (.int ((dedupK ks).length : Int)) B
abbrev rLenD : List V → Hp → VK → Prop := fun xs H Q => ∃ a kvs, xs = [V.ref a] ∧ H a = some (.dK kvs) ∧ Q (.int kvs.length) H
theorem ed_dcLen (i : Nat) {x : Str} {iter : Expr} {scope : Scope} {j : Nat} {p p1 p2 p3 pos pos2 : Pos} {wi : TI} {mi : EnvM → Bag → Res (List PD)} (hc : X.calm = true) (hN : X.N.Nodup) (hm : X.mg "len" = none) (hi : WI X W true (.Name x p3) iter wi mi)
    (hk : ∀ (s : Shared) (H : Hp) (C : Addr) (cl : List (Str × Addr)) (fp : List Addr), PE (X.blk s H scope (compEnvC scope cl C X.env) fp) (.Name x p1) (tVar i)) (hgn : ∀ (s : Shared) (H : Hp) (C : Addr) (cl : List (Str × Addr)) (fp : List Addr), PG (X.blk s H scope (compEnvC scope cl C X.env) fp) (.Name x p3) (gName i))
    (ok : blkC X.N X.env.scope scope [(x, i)] = true := by rfl) (hs : ∀ y, foldedSetIterable iter X.env y = pure y := by intro _; rfl) (hg : Gl X "len" := by rfl)
    (h1 : starEach [.DictComp (.Name x p1) (.Constant (.bool true) j p2) [⟨.Name x p3, iter, [], 0⟩] scope pos2] X.env = (false, eval (.DictComp (.Name x p1) (.Constant (.bool true) j p2) [⟨.Name x p3, iter, [], 0⟩] scope pos2) X.env) :: starEach [] X.env := by rfl) (hpl : (backTo pos (starEach [] X.env)).any (·.1) = false := by rfl) :
    ED X W (.Call (.Name "len" p) [.DictComp (.Name x p1) (.Constant (.bool true) j p2) [⟨.Name x p3, iter, [], 0⟩] scope pos2] [] pos) (tCB rLenD (tCons (tDc wi (gName i) tYes (tVar i) (tC (.bl true)) [i]) tNil)) (mDcLen i mi) := by
  refine ⟨pe_callB call_lenD hg hm PySem.boot_len (pa_cons (pe_dc (own := [(x, i)]) hc hN hi.pe (blkOk_by ok) hgn (fun _ _ _ _ _ => pts_nil) hk (fun _ _ _ _ _ => pe_bl) hs) pa_nil h1) (by decide) (by decide) h1 hpl, fun w G0 H0 σ env G H B Q R h => ?_⟩
  refine dc_sem (Q' := fun x H2 => rLenD [x] H2 Q) i hi R h fun ks B1 G1 H1 H2 D kvs hp s2 o2 hD hkv => ?_
  have e : kvs.length = (dedupK ks).length := by rw [← hkv, List.length_map]
  exact ⟨D, kvs, rfl, hD, by rw [e]; exact hp _ G1 H2 s2 o2 (.int _)⟩
def intKeys : List Key → Option (List Int)
  | [] => some []
  | .inl i :: r => (intKeys r).map (i :: ·)
  | .inr _ :: _ => none
theorem intKeys_eq : ∀ {ks : List Key} {ns : List Int}, intKeys ks = some ns → ks = ns.map Sum.inl
  | [], ns, h => by cases h; rfl
  | .inl i :: r, ns, h => by
    unfold intKeys at h
    cases e : intKeys r with
    | none => rw [e] at h; cases h
    | some ms => rw [e] at h; cases h; rw [intKeys_eq e]; rfl
  | .inr _ :: _, _, h => by cases h
theorem foldK_inl : ∀ (ns l : List Int), (ns.map Sum.inl : List Key).foldl addK (l.map Sum.inl) = (ns.foldl addK l).map Sum.inl
  | [], l => rfl
  | n :: r, l => by
    rw [List.map_cons, List.foldl_cons, List.foldl_cons]
    have e : addK (l.map Sum.inl : List Key) (Sum.inl n) = (addK l n).map Sum.inl := by
      unfold addK
      have : (Sum.inl n : Key) ∈ (l.map Sum.inl : List Key) ↔ n ∈ l := by simp
      by_cases h : n ∈ l
      · rw [if_pos h, if_pos (this.mpr h)]
      · rw [if_neg h, if_neg (fun z => h (this.mp z)), List.map_append]; rfl
    rw [e, foldK_inl r]
def mDcSrt (i : Nat) (mi : EnvM → Bag → Res (List PD)) : EnvM → Bag → Res PD := mDc i mi fun ks B => match intKeys ks with
  | some ns => if ns.length < 64 then .ok (.list ((riseI ns).map PyData.int)) B else .bad
  | none => .bad
abbrev rSrtD : List V → Hp → VK → Prop := fun xs H Q => ∃ (a : Addr) (kvs : List (Key × V)) (ks : List Int), xs = [.ref a] ∧ Rd H a (.dK kvs) ∧ kvs.map (·.1) = ks.map Sum.inl ∧ ks.length < 64 ∧ ∀ (ys : List Int) (p : Addr), ys.Perm ks → ys.Pairwise (· ≤ ·) → H p = none → Q (.ref p) (upd H p (.lst (ys.map V.int)))
theorem ed_dcSrt (i : Nat) {x : Str} {iter : Expr} {scope : Scope} {j : Nat} {p p1 p2 p3 pos pos2 : Pos} {wi : TI} {mi : EnvM → Bag → Res (List PD)} (hc : X.calm = true) (hN : X.N.Nodup) (hm : X.mg "sorted" = none) (hi : WI X W true (.Name x p3) iter wi mi)
    (hk : ∀ (s : Shared) (H : Hp) (C : Addr) (cl : List (Str × Addr)) (fp : List Addr), PE (X.blk s H scope (compEnvC scope cl C X.env) fp) (.Name x p1) (tVar i)) (hgn : ∀ (s : Shared) (H : Hp) (C : Addr) (cl : List (Str × Addr)) (fp : List Addr), PG (X.blk s H scope (compEnvC scope cl C X.env) fp) (.Name x p3) (gName i))
    (ok : blkC X.N X.env.scope scope [(x, i)] = true := by rfl) (hs : ∀ y, foldedSetIterable iter X.env y = pure y := by intro _; rfl) (hg : Gl X "sorted" := by rfl)
    (h1 : starEach [.DictComp (.Name x p1) (.Constant (.bool true) j p2) [⟨.Name x p3, iter, [], 0⟩] scope pos2] X.env = (false, eval (.DictComp (.Name x p1) (.Constant (.bool true) j p2) [⟨.Name x p3, iter, [], 0⟩] scope pos2) X.env) :: starEach [] X.env := by rfl) (hpl : (backTo pos (starEach [] X.env)).any (·.1) = false := by rfl) :
    ED X W (.Call (.Name "sorted" p) [.DictComp (.Name x p1) (.Constant (.bool true) j p2) [⟨.Name x p3, iter, [], 0⟩] scope pos2] [] pos) (tCB rSrtD (tCons (tDc wi (gName i) tYes (tVar i) (tC (.bl true)) [i]) tNil)) (mDcSrt i mi) := by
  refine ⟨pe_callB (call_sortedDI hc) hg hm (by decide +kernel) (pa_cons (pe_dc (own := [(x, i)]) hc hN hi.pe (blkOk_by ok) hgn (fun _ _ _ _ _ => pts_nil) hk (fun _ _ _ _ _ => pe_bl) hs) pa_nil h1) (by decide) (by decide) h1 hpl, fun w G0 H0 σ env G H B Q R h => ?_⟩
  refine dc_sem (Q' := fun x H2 => rSrtD [x] H2 Q) i hi R h fun ks B1 G1 H1 H2 D kvs hp s2 o2 hD hkv => ?_
  cases e : intKeys ks with
  | none => simp only [e] at hp; exact hp.elim
  | some ns =>
    simp only [e] at hp
    by_cases hl : ns.length < 64
    · rw [if_pos hl] at hp
      have e1 := intKeys_eq e
      subst e1
      have e2 : dedupK (ns.map Sum.inl : List Key) = (dedupK ns).map Sum.inl := foldK_inl ns []
      refine ⟨D, kvs, dedupK ns, rfl, .inl hD, by rw [hkv, e2], by have := dedupK_len ns; omega, fun ys q pm pw hq => ?_⟩
      have pw2 : ys.Pairwise (· < ·) := by
        have nd : ys.Nodup := pm.nodup_iff.mpr dedupK_nodup
        refine (pw.and nd).imp fun ⟨a, b⟩ => ?_
        omega
      have e3 : ys = riseI ns := rise_eq pw2 fun k => by rw [pm.mem_iff, dedupK_mem]
      subst e3
      exact hp _ _ _ (s2.trans (Step.new o2.sub hq)) (o2.new hq) (.lst upd_same (DRs.ints _))
    · rw [if_neg hl] at hp; exact hp.elim
end
end DL
set_option Elab.async false
set_option linter.all false
set_option maxRecDepth 100000
set_option maxHeartbeats 4000000
/-! DL9: the bag's making, the law's frame. -/
namespace DL
open PySem L2
open ZT (PT)
def cellsOf (ns : List Int) : List Nat := ns.map Int.natAbs
def spBag (K : Fg) : Sp := fun vs H Q _ => ∃ (a : Addr) (ns : List Int), vs = [.ref a] ∧ SqL K H a (ns.map V.int) ∧ ns.length ≤ 63 ∧
  ∀ (b l : Addr) (H' : Hp), l ≠ b → Sub H H' → H' b = some (.lst [.int 0, .int 1234567891, .int 0, .ref l]) → H' l = some (.lst ((cellsOf ns).map fun n : Nat => V.int (n : Int))) → Q (.ref b) H'
def spLaw (K : Fg) : Sp := fun vs H Q _ => ∃ (a : Addr) (ns : List Int), vs = [.ref a] ∧ SqL K H a (ns.map V.int) ∧ ns.length ≤ 63 ∧ ∀ H', Q (.bl true) H'
def tBag (K : Fg) (i : Nat) : TE := tLst (tCons (tC (.int 0)) (tCons (tC (.int 1234567891)) (tCons (tC (.int 0)) (tCons (tLc (iList K (tSl (rSlL K) (tVar 0) tNoPart (tPart (tC (.int 63))))) (gName i) tYes (tCB rAbs (tCons (tVar i) tNil)) [i]) tNil))))
theorem bag_sem {K : Fg} {i : Nat} {σ : L2.St} {H : Hp} {Q : VK} {a : Addr} {ns : List Int} (hi : i < σ.length) (h0 : σ[0]? = some (some (.ref a))) (hs : SqL K H a (ns.map V.int)) (hl : ns.length ≤ 63)
    (k : ∀ (b l : Addr) (H' : Hp), l ≠ b → Sub H H' → H' b = some (.lst [.int 0, .int 1234567891, .int 0, .ref l]) → H' l = some (.lst ((cellsOf ns).map fun n : Nat => V.int (n : Int))) → Q (.ref b) H') : tBag K i σ H Q := by
  have hlen : (ns.map V.int).length = ns.length := List.length_map _
  have h63 : 63 ≤ sizeLine := by decide
  refine ⟨_, h0, 63, rfl, a, ns.map V.int, rfl, hs, fun p hp => ⟨p, rfl, ⟨_, SqL.of upd_same⟩, ?_⟩⟩
  · have cut : cutV (ns.map V.int) none (some 63) = ns.map V.int := by
      have e2 : HT.sIx (ns.map V.int).length (ns.map V.int).length (some 63) = (ns.map V.int).length := by
        have e3 : HT.sIx (ns.map V.int).length (ns.map V.int).length (some ((63 : Nat) : Int)) = min 63 (ns.map V.int).length := HT.sIx_nat _ _ 63
        have e4 : min 63 (ns.map V.int).length = (ns.map V.int).length := by omega
        exact e3.trans e4
      unfold cutV
      rw [e2, HT.sIx_none, List.drop_zero, Nat.sub_zero, List.take_length]
    rw [cut]
    intro D hD
    have npD : p ≠ D := fun z => by rw [← z, upd_same] at hD; cases hD
    have hHD : H D = none := by rw [upd_ne npD.symm] at hD; exact hD
    refine lc_list (K := K) (a := p) (xs := ns.map V.int) (fun j H' => Sub H H' ∧ H' p = some (.lst (ns.map V.int)) ∧ H' D = some (.lst ((cellsOf (ns.take j)).map fun n : Nat => V.int (n : Int))) ∧ j ≤ ns.length) ⟨fun c o e => ?_, ?_, upd_same, Nat.zero_le _⟩ (fun j H' _ q => SqL.of q.2.1) ?_ ?_
    · rw [upd_ne (ne_of_none e hHD), upd_ne (ne_of_none e hp)]; exact e
    · rw [upd_ne npD]; exact upd_same
    · rintro j x H' hx ⟨q1, q2, q3, q4⟩
      obtain ⟨n, e1, e2⟩ : ∃ n, ns[j]? = some n ∧ x = .int n := by
        rw [List.getElem?_map] at hx
        cases e : ns[j]? with
        | none => rw [e] at hx; cases hx
        | some n => rw [e] at hx; exact ⟨n, rfl, (Option.some.inj hx).symm⟩
      subst e2
      have hj : j < ns.length := (List.getElem?_eq_some_iff.mp e1).1
      have e3 : ((wipe σ [i]).set i (some (.int n)))[i]? = some (some (.int n)) := List.getElem?_set_self (by rw [wipe_length]; exact hi)
      refine ⟨(wipe_set List.mem_cons_self).trans (wipe_wipe [i] fun _ z => z), ?_⟩
      have ez : (if n < 0 then -n else n) = ((n.natAbs : Nat) : Int) := by split <;> omega
      refine ⟨_, e3, n, rfl, _, q3, ?_, fun c o e => ?_, ?_, ?_, hj⟩
      · unfold cellsOf
        rw [List.length_map, List.length_map, List.length_take]
        omega
      · have nD : c ≠ D := fun z => by rw [z, hHD] at e; cases e
        rw [upd_ne nD]; exact q1 c o e
      · rw [upd_ne npD]; exact q2
      · rw [upd_same, ez]
        unfold cellsOf
        rw [List.take_add_one, e1, List.map_append, List.map_append]
        rfl
    · rintro H' ⟨q1, q2, q3, q4⟩
      rw [hlen, List.take_length] at q3
      refine ⟨(by decide : 4 ≤ sizeLine), fun b hb => ?_⟩
      have nDb : D ≠ b := ne_of_none q3 hb
      exact k b D _ nDb (fun c o e => by rw [upd_ne (ne_of_none (q1 c o e) hb)]; exact q1 c o e) upd_same (by rw [upd_ne nDb]; exact q3)
/-- the law's start: the slots empty but the bag's -/
def envL (n ib : Nat) : EnvM := (List.replicate n none).set ib (some .bag)
def bag0 (ns : List Int) : Bag := ⟨0, 1234567891, 0, cellsOf ns⟩
theorem law_rel {K : Fg} {H : Hp} {σ : L2.St} {b l : Addr} {ns : List Int} {n ib : Nat} (hn : σ.length = n) (hb : H b = some (.lst [.int 0, .int 1234567891, .int 0, .ref l])) (hl : H l = some (.lst ((cellsOf ns).map fun n : Nat => V.int (n : Int)))) (nlb : l ≠ b) (hs : σ[ib]? = some (some (.ref b))) {T : List (Addr × Str)} (hT : LamX.Tabs T H) (hTK : T = TK K) :
    Rel K ⟨some (b, l), T⟩ (upd (fun _ => none) l (.lst ((cellsOf ns).map fun n : Nat => V.int (n : Int)))) H σ (envL n ib) (upd (fun _ => none) l (.lst ((cellsOf ns).map fun n : Nat => V.int (n : Int)))) H (bag0 ns) := by
  have only : ∀ (j : Nat) (sv : SV), (envL n ib)[j]? = some (some sv) → j = ib ∧ sv = .bag := fun j sv e => by
    unfold envL at e
    by_cases hj : ib = j
    · subst hj
      by_cases h : ib < (List.replicate n (none : Option SV)).length
      · rw [List.getElem?_set_self h] at e
        cases e
        exact ⟨rfl, rfl⟩
      · rw [List.getElem?_eq_none (by rw [List.length_set]; omega)] at e; cases e
    · rw [List.getElem?_set_ne hj, List.getElem?_replicate] at e
      split at e <;> cases e
  refine ⟨⟨fun c o e => ?_, fun b' l' e => ?_, fun b' l' e => ?_, hT, gt_upd (fun _ _ z => by cases z) (fun _ z => by cases z), fun b' l' e => ?_⟩, Step.refl, by unfold envL; rw [List.length_set, List.length_replicate]; exact hn.symm, fun j sv e => ?_, fun j k sj sk p hjk e1 o1 _ _ _ => ?_, hTK⟩
  · by_cases h : c = l
    · subst h; rw [upd_same] at e; cases e; exact hl
    · rw [upd_ne h] at e; cases e
  · cases e; exact ⟨hb, nlb, hl⟩
  · cases e; rw [upd_ne nlb.symm]
  · cases e; exact upd_same
  · obtain ⟨rfl, rfl⟩ := only j sv e
    exact ⟨_, hs, b, l, rfl, rfl⟩
  · obtain ⟨_, rfl⟩ := only j sj e1
    cases o1
/-- the law by its mirror -/
theorem law_sem {X : Cx} {t : TS} {rest : List Stmt} {m : EnvM → Bag → SRes} {σ : L2.St} {H : Hp} {Q : VK} {a : Addr} {ns : List Int} {n ib : Nat} (hr : SDs X W0 rest t m) (hn : σ.length = n) (hib : ib < n) (h0 : σ[0]? = some (some (.ref a))) (hs : SqL X.K H a (ns.map V.int)) (hl : ns.length ≤ 63)
    (hm : ∃ B, m (envL n ib) (bag0 ns) = .ret (.bool true) B) (k : ∀ H', Q (.bl true) H') (E : XK) (hT : LamX.Tabs (TK X.K) H) :
    tSeq (tAsg (tCall (spBag X.K) [] E (tCons (tVar 0) tNil)) (gName ib)) t { nx := fun _ H' => Q .non H', rt := Q } σ H := by
  refine ⟨_, h0, a, ns, rfl, hs, hl, fun b l H' nlb sb hb hl' => ?_⟩
  obtain ⟨B, e⟩ := hm
  have R := law_rel (K := X.K) (σ := σ.set ib (some (.ref b))) (n := n) (ib := ib) (by rw [List.length_set]; exact hn) hb hl' nlb (List.getElem?_set_self (by omega)) (T := TK X.K) (hT.ext sb) rfl
  refine hr.sem _ _ _ _ _ _ _ _ _ R ?_
  rw [e]
  intro v G' H2 s2 o2 d
  cases d
  exact k H2
end DL
set_option Elab.async false
set_option linter.all false
set_option maxRecDepth 100000
set_option maxHeartbeats 4000000
/-! DL10: lists, tuples and texts walked. -/
namespace DL
open PySem L2
open ZT (PT)
def signsOf (x : Str) : List PD := x.cps.toList.map fun c => PyData.str ⟨#[c]⟩
theorem Walks.str {K : Fg} {G : Hp} {x : Str} : Walks K true (Its x) G (signsOf x) where
  go := fun i H d hs e => by
    have q := (List.getElem?_eq_some_iff.mp e).1
    unfold signsOf at q
    rw [List.length_map, Array.length_toList] at q
    exact q
  yld := fun i w G' H B v H' d o hs e y => by
    obtain ⟨e1, c, h1, h2⟩ := y
    subst e1
    subst h2
    unfold signsOf at e
    rw [List.getElem?_map, Array.getElem?_toList, h1] at e
    cases e
    exact ⟨G', Step.refl, o, .str _⟩
  stop := fun i H hs e => by
    unfold signsOf at e
    rw [List.length_map, Array.length_toList] at e
    exact e
def mSeqOfS (m : EnvM → Bag → Res PD) : EnvM → Bag → Res (List PD) := fun env B => (m env B).bind fun d B1 => match d with
  | .list ds => .ok ds B1
  | .tuple ds => .ok ds B1
  | .str x => .ok (signsOf x) B1
  | _ => .bad
theorem wi_seqSK {X : Cx} {W : WX} (K : Fg) {tg e : Expr} {t : TE} {m : EnvM → Bag → Res PD} (h : ED X W e t m) (hK : X.K = K := by rfl) : WI X W true tg e (fun σ H R => (iList K t σ H R ∨ iTup K t σ H R) ∨ iStr t σ H R) (mSeqOfS m) := by
  subst hK
  refine ⟨pi_or (pi_or (pi_list h.pe) (pi_tup h.pe)) (pi_str h.pe), fun w G0 H0 σ env G H B Q R hp => ?_⟩
  unfold mSeqOfS at hp
  cases e : m env B with
  | ok d B1 =>
    rw [e] at hp
    have mk : ∀ Q1 : VK, (∀ v G' H', Step w G H G' H' → Ok w G' H' B1 → DR X.K G' v d → Q1 v H') → PostE X.K X.mg w G H (m env B) Q1 (fun c d H' => W c d σ H') := fun Q1 k => by
      rw [e]
      exact k
    cases d with
    | list ds =>
      left; left
      refine h.sem w G0 H0 σ env G H B _ R (mk _ fun v G' H' s o dv => ?_)
      cases dv with
      | lst hx r => exact ⟨_, rfl, ⟨_, subL o.sub hx⟩, hp _ G' H' s o (Walks.list hx r)⟩
    | tuple ds =>
      left; right
      refine h.sem w G0 H0 σ env G H B _ R (mk _ fun v G' H' s o dv => ?_)
      cases dv with
      | tup hx r => exact ⟨_, rfl, ⟨_, subT o.sub hx⟩, hp _ G' H' s o (Walks.tuple hx r)⟩
    | str x =>
      right
      refine h.sem w G0 H0 σ env G H B _ R (mk _ fun v G' H' s o dv => ?_)
      cases dv
      exact ⟨x, rfl, hp _ G' H' s o Walks.str⟩
    | _ => exact (show False from hp).elim
  | exc c as B1 =>
    rw [e] at hp
    left; left
    refine h.sem w G0 H0 σ env G H B _ R ?_
    rw [e]
    exact hp
  | bad => rw [e] at hp; exact hp.elim
end DL
set_option Elab.async false
set_option linter.all false
set_option maxRecDepth 100000
set_option maxHeartbeats 4000000
/-! DL11: defs that may raise, raise, try with a tuple told. -/
namespace DL
open PySem L2
open ZT (PT)
def SpE (K : Fg) (mg : Str → Option Value) (np : Nat) (m : List SV → Bag → Res PD) : Sp := fun vs H Q E => vs.length = np ∧ ∃ (w : Wd) (G : Hp) (B : Bag) (ss : List SV), Ok w G H B ∧ w.tb = TK K ∧ ARs K w G vs ss ∧ PostE K mg w G H (m ss B) Q E
/-- a def that may be called by its name and may raise -/
structure CalX (P : Program) (w : World) (K : Fg) (mg : Str → Option Value) (base : Heap) (k : Nat) (x : Str) (sp : Sp) : Prop where
  ex : ∃ (f : Addr) (fd : FuncData) (ps : List Str), FnOk P w K mg base (L2.CX P w) k f fd ps sp ∧ mg x = some (.ref f) ∧ PySem.W.keepIn K (.ref f) = true ∧ Binds K fd ps []
abbrev BXX (P : Program) (w : World) (K : Fg) (mg : Str → Option Value) (base : Heap) (N : List Str) (x : Str) (st : Stmt) (f : Addr) (cdv : Value) (A : Around) (outer : List Env) (s : Shared) (H : Hp) (E : XK) : Cx := cxOf (L2.CX P w) P w K mg base N x (C8.fnScope st) f cdv A outer s H E
abbrev WX1 (E : XK) : WX := fun cls d _ H => E cls d H
theorem defX_ok {P : Program} {w : World} {K : Fg} {mg : Str → Option Value} {base : Heap} {x : Str} {st : Stmt} {f : Addr} {fd : FuncData} {N ps : List Str} {k n : Nat} {m : EnvM → Bag → SRes} (F : C8.Def K mg x st f fd) (b : Binds K fd ps []) (S : FnScope N ps (C8.fnScope st)) (hn : n = ps.length)
    (hbody : ∀ (cdv : Value) (A : Around) (outer : List Env) (s : Shared) (H : Hp) (E : XK), Room k (A.deeper (PyProof.Rows.envOfC x (C8.fnScope st) s.heap.objs.size f cdv)) → ∃ t, SDs (BXX P w K mg base N x st f cdv A outer s H E) (WX1 E) (C8.fnBody st) t m) :
    CalX P w K mg base (k + 1) x (SpE K mg n (mFn N.length m)) := by
  subst hn
  refine ⟨f, fd, ps, ?_, F.mgf, F.kp, b⟩
  obtain ⟨oc, od, dV, kV, doc, pm, an, cdv, ct, osl, rfl, lk, hcd⟩ := F.fn.ex
  refine fn_of lk hcd S (fun vs H Q E h => h.1) fun A outer s H vs Q E hr h => ?_
  obtain ⟨hl, w', G, B, ss, o, wk, r, q⟩ := h
  obtain ⟨t, ht⟩ := hbody cdv A outer s H E hr
  refine ⟨t, ht.pe, ht.sem w' G H (L2.start N vs) (env0 N.length ss) G H B _ (start_rel o wk r) ?_⟩
  unfold mFn at q
  cases e : m (env0 N.length ss) B with
  | nx env' B' => rw [e] at q; exact fun σ' G' H' R' s' => q .non G' H' R'.ent R'.ok .non
  | ret d B' => rw [e] at q; exact q
  | exc c as e1 B' => rw [e] at q; exact fun σ' cls dd fs G' H' m R' _ d f => q cls dd fs G' H' m R'.ent R'.ok d f
  | bk env' B' => rw [e] at q; exact q.elim
  | ct env' B' => rw [e] at q; exact q.elim
  | bad => rw [e] at q; exact q.elim
section
variable {X : Cx} {W : WX}
def mCallE (np : Nat) (m : List SV → Bag → Res PD) (ma : EnvM → Bag → Res (List SV)) : EnvM → Bag → Res PD := fun env B => (ma env B).bind fun ss B1 => if ss.length = np then m ss B1 else .bad
/-- a call that may raise -/
theorem ed_callE (K : Fg) (mg : Str → Option Value) {k j np : Nat} {x : Str} {e : Expr} {es : List Expr} {t : TA} {m : List SV → Bag → Res PD} {ma : EnvM → Bag → Res (List SV)} {p pos : Pos} (c : CalX X.prog X.w K mg X.base k x (SpE K mg np m)) (tk : Takes X W) (hr : Room j X.A) (hk : k ≤ j) (ha : AD X W (e :: es) t ma) (hg : Gl X x := by rfl)
    (hdb : (x == ("__debug__" : Str)) = false := by decide) (he : starEach (e :: es) X.env = (false, eval e X.env) :: starEach es X.env := by rfl) (hpl : (backTo pos (starEach es X.env)).any (·.1) = false := by rfl) (hK : X.K = K := by rfl) (hM : X.mg = mg := by rfl) :
    ED X W (.Call (.Name x p) (e :: es) [] pos) (tCallS (SpE K mg np m) (WE W) t) (mCallE np m ma) := by
  subst hK hM
  obtain ⟨f, fd, ps, F, hm, kp, b⟩ := c.ex
  refine ⟨pe_callS F (hr.mono hk) hg hm kp b (fun σ => passAt tk σ) ha.pe hdb he hpl, fun w G0 H0 σ env G H B Q R h => ?_⟩
  refine ha.sem w G0 H0 σ env G H B _ R (PostR.bind h fun ss B1 vs G1 H1 s1 o1 d1 h1 => ?_)
  by_cases hl : ss.length = np
  · rw [if_pos hl] at h1
    exact ⟨by rw [d1.length]; exact hl, w, G1, B1, ss, o1, R.wk, d1, h1⟩
  · rw [if_neg hl] at h1; exact h1.elim
/-- raise X(a, ..): fs the fields by the arguments -/
def mRaise (c : Str) (fsP : List PD → Option (List (Str × PD))) (ma : EnvM → Bag → Res (List SV)) : EnvM → Bag → SRes := fun env B => (ma env B).s env fun ss B1 => match (unD ss).bind fsP with
  | some as => .exc c as env B1
  | none => .bad
/-- what the making of an own exception asks of its fields -/
def tMkX (C : Addr) (fsV : List V → Option (List (Str × V))) (ta : TA) : L2.St → Hp → XK → Prop := fun σ H Q => ta σ H fun vs H1 => ∃ fs, fsV vs = some fs ∧ ∀ d, H1 d = none → Q (.ref C) (some d) (upd H1 d (.xd fs))
theorem sd_raise {c : Str} {C : Addr} {fsP : List PD → Option (List (Str × PD))} {fsV : List V → Option (List (Str × V))} {es : List Expr} {e : Expr} {t : TA} {ma : EnvM → Bag → Res (List SV)} {pos : Pos} (hC : X.mg c = some (.ref C)) (ha : AD X W es t ma)
    (hp : PS X (.Raise (some e) none pos) (fun _ σ H => tMkX C fsV t σ H fun cls d H' => W cls d σ H'))
    (hf : ∀ (G : Hp) (vs : List V) (ds : List PD) (as : List (Str × PD)), DRs X.K G vs ds → fsP ds = some as → ∃ fs, fsV vs = some fs ∧ Fs X.K G fs as) :
    SD X W (.Raise (some e) none pos) (fun _ σ H => tMkX C fsV t σ H fun cls d H' => W cls d σ H') (mRaise c fsP ma) := by
  refine ⟨hp, fun w G0 H0 σ env G H B D R h => ?_⟩
  refine ha.sem w G0 H0 σ env G H B _ R (PostS.bind R (Sub.refl _) h fun ss B1 vs G1 H1 s1 o1 d1 h1 => ?_)
  cases e1 : unD ss with
  | none => simp only [e1] at h1; exact h1.elim
  | some ds =>
    simp only [e1] at h1
    have h1 : PostS X.K X.mg w G0 H0 G W D (match fsP ds with | some as => .exc c as env B1 | none => .bad) := h1
    cases e2 : fsP ds with
    | none => rw [e2] at h1; exact h1.elim
    | some as =>
      rw [e2] at h1
      obtain ⟨fs, q1, q2⟩ := hf G1 vs ds as (d1.un e1) e2
      refine ⟨fs, q1, fun d hd => ?_⟩
      have s2 : Step w G1 H1 G1 (upd H1 d (.xd fs)) := Step.newH hd
      exact h1 σ (.ref C) d fs G1 _ hC ((R.step s1 o1).step s2 (o1.newH hd)) s1.exG upd_same q2
/-! ### try: .. except X as e: return (.., e.f, ..) -/
theorem Fs.get {K : Fg} {G : Hp} : ∀ {fs : List (Str × V)} {as : List (Str × PD)} {f : Str} {d : PD}, Fs K G fs as → as.lookup f = some d → ∃ v, fs.lookup f = some v ∧ DR K G v d
  | _, _, _, _, .nil, h => by cases h
  | _, _, f, d, .cons (f := g) (v := v) hd r, h => by
    by_cases e : (f == g) = true
    · simp only [List.lookup, e] at h ⊢
      cases h
      exact ⟨v, rfl, hd⟩
    · have e : (f == g) = false := by simpa using e
      simp only [List.lookup, e] at h ⊢
      exact Fs.get r h
/-- a name, the number of slots known -/
def tVarL (n i : Nat) : TE := fun σ H Q => σ.length = n → tVar i σ H Q
theorem pe_varL {i : Nat} {x : Str} {pos : Pos} (hN : X.N[i]? = some x) (hv : Vis X.env.scope x) (hd : (x == ("__debug__" : Str)) = false := by decide)
    (hcd : (x == ("__classdict__" : Str)) = false := by decide) : PE X (.Name x pos) (tVarL X.N.length i) :=
  ⟨fun pins s σ H Q I h => (pe_var hN hv hd hcd).run pins s σ H Q I (h I.len)⟩
/-- the items of what the handler tells -/
structure HD (X : Cx) (i : Nat) (C : Addr) (es : List Expr) (t : Addr → Value → Option Addr → TA) (m : List (Str × PD) → Option (List PD)) : Prop where
  pe : ∀ (a : Addr) (oe : Obj) (cls : Value) (d : Option Addr) (pn : List (Addr × Obj)), Zc cls d oe → (∃ vs, oe.data = .fields vs) → PA (X.suite a ((a, oe) :: pn)) es (t a cls d)
  sem : ∀ (a dd : Addr) (fs : List (Str × V)) (as : List (Str × PD)) (ds : List PD) (σ : L2.St) (G H : Hp) (Q : List V → Hp → Prop), (σ.length = X.N.length → σ[i]? = some (some (.ref a))) → H dd = some (.xd fs) → Fs X.K G fs as → m as = some ds → (∀ vs, DRs X.K G vs ds → Q vs H) → t a (.ref C) (some dd) σ H Q
theorem hd_nil {i : Nat} {C : Addr} : HD X i C [] (fun _ _ _ => tNil) (fun _ => some []) := ⟨fun _ _ _ _ _ _ _ => pa_nil, fun a dd fs as ds σ G H Q _ _ _ e k => by cases e; exact k [] .nil⟩
theorem hd_str {i : Nat} {C : Addr} {x : Str} {j : Nat} {p : Pos} {es : List Expr} {t : Addr → Value → Option Addr → TA} {m : List (Str × PD) → Option (List PD)} (h : HD X i C es t m) (hs : ∀ (a : Addr) (pn : List (Addr × Obj)), starEach (.Constant (.str x) j p :: es) (X.suite a pn).env = (false, eval (.Constant (.str x) j p) (X.suite a pn).env) :: starEach es (X.suite a pn).env := by exact fun _ _ => rfl) :
    HD X i C (.Constant (.str x) j p :: es) (fun a cls d => tCons (tC (.str x)) (t a cls d)) (fun as => (m as).map fun ds => .str x :: ds) := by
  refine ⟨fun a oe cls d pn hz hf => pa_cons pe_str (h.pe a oe cls d pn hz hf) (hs a _), fun a dd fs as ds σ G H Q h1 h2 h3 e k => ?_⟩
  cases q : m as with
  | none => rw [q] at e; cases e
  | some ds' =>
    rw [q] at e
    cases e
    exact h.sem a dd fs as ds' σ G H _ h1 h2 h3 q fun vs r => k _ (.cons (.str x) r)
/-- e.f, e the exception that the suite holds -/
def tBy (C : Addr) (f : Str) (a : Addr) (cls : Value) (d : Option Addr) (te : TE) : TE := fun σ H Q => te σ H fun x H1 => x = .ref a ∧ cls = .ref C ∧ ∃ (dd : Addr) (fs : List (Str × V)) (v : V), d = some dd ∧ H1 dd = some (.xd fs) ∧ fs.lookup f = some v ∧ Q v H1
theorem pe_by {f : Str} {a C : Addr} {oe : Obj} {cls : Value} {d : Option Addr} {pn : List (Addr × Obj)} {e : Expr} {te : TE} {pos : Pos} (hga : PySem.W.findIn X.K (.ref C) "__getattribute__" = some (some (.builtin "BaseException.__getattribute__"))) (hgg : PySem.W.findIn X.K (.ref C) "__getattr__" = some none)
    (hex : PySem.W.subIn X.K (.ref C) (.type "BaseException") = some true) (hdC : PySem.W.hasDictIn X.K C = true) (hno : PySem.W.findIn X.K (.ref C) f = some none) (hz : Zc cls d oe) (hf : ∃ vs, oe.data = .fields vs) (he : PE (X.suite a ((a, oe) :: pn)) e te)
    (hb : attributeBase e f X.env (eval e X.env) = eval e X.env) :
    PE (X.suite a ((a, oe) :: pn)) (.Attribute e f pos) (tBy C f a cls d te) := by
  refine ⟨fun pins s σ H Q I h => ?_⟩
  refine attr_of hb (thn (he.run pins s σ H _ I h) fun u s1 hh => ?_)
  obtain ⟨x, H1, I1, rx, ex, ec, dd, fs, v, ed, ea, el, q⟩ := hh
  subst ex
  obtain rfl : u = Value.ref a := rx
  subst ec
  subst ed
  obtain ⟨ha, _⟩ := I1.pin (a, oe) (List.mem_append_left _ List.mem_cons_self)
  obtain ⟨vs, hd⟩ := hf
  have hx : ObjOk X.prog X.w H1 s1.heap dd (.xd fs) := I1.hok dd _ ea
  obtain ⟨mA, hns, hr⟩ := hx
  obtain ⟨od, ho, hl⟩ := lookIn_ns hns
  obtain ⟨u, hu, ru⟩ := RelO.some_of (v := v) (o := mA f) (by rw [← el]; exact hr f)
  have J : PySem.W.InstAt s1.heap a oe C (some od) := ⟨ha, hz.1, by unfold PySem.W.notCls; rw [hd] <;> rfl, by rw [hz.2]; exact ho⟩
  exact HandSPX.exc_get I1.kIn J hga hgg hex (PySem.W.findObj_own hdC hno rfl (by rw [hl, hu])) (handed_of ru) ⟨v, H1, I1.tok _, ru, q⟩
theorem hd_by {i : Nat} {C : Addr} {f n : Str} {p p2 : Pos} {es : List Expr} {t : Addr → Value → Option Addr → TA} {m : List (Str × PD) → Option (List PD)} (hga : PySem.W.findIn X.K (.ref C) "__getattribute__" = some (some (.builtin "BaseException.__getattribute__"))) (hgg : PySem.W.findIn X.K (.ref C) "__getattr__" = some none)
    (hex : PySem.W.subIn X.K (.ref C) (.type "BaseException") = some true) (hdC : PySem.W.hasDictIn X.K C = true) (hno : PySem.W.findIn X.K (.ref C) f = some none) (h : HD X i C es t m) (hN : X.N[i]? = some n := by rfl) (hv : Vis X.env.scope n := by first | exact Or.inl rfl | exact Or.inr (Or.inl rfl) | exact Or.inr (Or.inr rfl))
    (hd : (n == ("__debug__" : Str)) = false := by decide) (hcd : (n == ("__classdict__" : Str)) = false := by decide) (hb : attributeBase (.Name n p) f X.env (eval (.Name n p) X.env) = eval (.Name n p) X.env := by rfl)
    (hs : starEach (.Attribute (.Name n p) f p2 :: es) X.env = (false, eval (.Attribute (.Name n p) f p2) X.env) :: starEach es X.env := by rfl) :
    HD X i C (.Attribute (.Name n p) f p2 :: es) (fun a cls d => tCons (tBy C f a cls d (tVarL X.N.length i)) (t a cls d)) (fun as => match as.lookup f with
      | some d => (m as).map fun ds => d :: ds
      | none => none) := by
  refine ⟨fun a oe cls d pn hz hf => pa_cons (pe_by hga hgg hex hdC hno hz hf (pe_varL (X := X.suite a ((a, oe) :: pn)) hN hv hd hcd) hb) (h.pe a oe cls d pn hz hf) hs, fun a dd fs as ds σ G H Q h1 h2 h3 e k => ?_⟩
  cases q0 : as.lookup f with
  | none => simp only [q0] at e; cases e
  | some d0 =>
    simp only [q0] at e
    cases q : m as with
    | none => rw [q] at e; cases e
    | some ds' =>
      rw [q] at e
      cases e
      obtain ⟨v, e1, e2⟩ := h3.get q0
      exact fun hl => ⟨_, h1 hl, rfl, rfl, dd, fs, v, rfl, h2, e1, h.sem a dd fs as ds' σ G H _ h1 h2 h3 q fun vs r => k _ (.cons e2 r)⟩
/-- try: body; except X as n: return (items) -/
def mTryRet (i : Nat) (c : Str) (mb : EnvM → Bag → SRes) (mh : List (Str × PD) → Option (List PD)) : EnvM → Bag → SRes := fun env B => match mb env B with
  | .exc c' as e1 B1 => if c' = c ∧ i < e1.length then (match mh as with
    | some ds => if ds.length ≤ sizeLine then .ret (.tuple ds) B1 else .bad
    | none => .bad) else .bad
  | r => r
theorem sd_tryRet (i : Nat) {c n : Str} {C : Addr} {body : List Stmt} {es : List Expr} {tb : WX → TS} {th : Addr → Value → Option Addr → TA} {mb : EnvM → Bag → SRes} {mh : List (Str × PD) → Option (List PD)} {np pos pos' p1 p2 : Pos} {kt} (hs : X.stack = X.env :: X.outer) (hf : X.env.frame = some X.env.locals) (hN : X.N.Nodup) (hC : X.mg c = some (.ref C)) (hte : PySem.W.exmOne X.K (.ref C) (.ref C) = some true) (tk : Takes X W)
    (hb : ∀ (W' : WX) (pn : List (Addr × Obj)) (xe : Value → Shared → Prop), Takes (X.tr pn xe) W' → SDs (X.tr pn xe) W' body (tb W') mb) (hh : HD X i C es th mh)
    (hi : X.N[i]? = some n := by rfl) (hln : X.env.kindOf n = some .local := by rfl) (hg : Gl X c := by rfl) (hdb : (c == ("__debug__" : Str)) = false := by decide) :
    SD X W (.Try body [.ExceptHandler (some (.Name c np)) (some n) [.Return (some (.Tuple es kt p1)) p2] pos'] [] [] pos) (fun D σ H => tb (wAs X.K (.ref C) i (fun a cls d => tRet (ZT.tTupP (th a cls d))) W D) D σ H) (mTryRet i c mb mh) := by
  refine ⟨ps_try_as hs hf hN hi hln ⟨hg, hdb, .inl hC⟩ tk (fun W' pn xe t _ => (hb W' pn xe t).pe) (fun a oe cls d pn hz hfl => pss_one (ps_ret (ZT.pe_tupP (hh.pe a oe cls d pn hz hfl)))), fun w G0 H0 σ env G H B D R h => ?_⟩
  refine (hb (wAs X.K (.ref C) i (fun a cls d => tRet (ZT.tTupP (th a cls d))) W D) [] (fun _ _ => True) (fun _ _ _ => trivial)).sem w G0 H0 σ env G H B D R ?_
  unfold mTryRet at h
  cases e : mb env B with
  | nx env' B' => rw [e] at h; exact h
  | bk env' B' => rw [e] at h; exact h
  | ct env' B' => rw [e] at h; exact h
  | ret d B' => rw [e] at h; exact h
  | bad => rw [e] at h; exact h.elim
  | exc c' as e1 B1 =>
    rw [e] at h
    have h : PostS X.K X.mg w G0 H0 G W D (if c' = c ∧ i < e1.length then (match mh as with | some ds => if ds.length ≤ sizeLine then .ret (.tuple ds) B1 else .bad | none => .bad) else .bad) := h
    by_cases hc : c' = c ∧ i < e1.length
    · rw [if_pos hc] at h
      obtain ⟨hcc, hlt⟩ := hc
      cases em : mh as with
      | none => rw [em] at h; exact h.elim
      | some ds =>
        rw [em] at h
        have h : PostS X.K X.mg w G0 H0 G W D (if ds.length ≤ sizeLine then .ret (.tuple ds) B1 else .bad) := h
        by_cases hl : ds.length ≤ sizeLine
        · rw [if_pos hl] at h
          intro σ' cls dd fs G' H' m R' _ hd hfs
          rw [hcc] at m
          have ec : cls = .ref C := Option.some.inj (m.symm.trans hC)
          subst ec
          refine ⟨true, hte, fun _ a ha => ?_, fun z => Bool.noConfusion z⟩
          refine hh.sem a dd fs as ds _ G' H' _ (fun _ => List.getElem?_set_self (by rw [← R'.len]; exact hlt)) hd hfs em fun vs r => ⟨by rw [r.length]; exact hl, fun p ob hp hob => ?_⟩
          exact h _ _ _ (R'.ent.trans (Step.new R'.ok.sub hp)) (R'.ok.new hp) (.tup (PT.new hob) (r.mono (sub_upd (R'.ok.free hp))))
        · rw [if_neg hl] at h; exact h.elim
    · rw [if_neg hc] at h; exact h.elim
end
end DL
set_option Elab.async false
set_option linter.all false
set_option maxRecDepth 100000
set_option maxHeartbeats 2000000
/-! DL21: a lambda without parameters handed to a def that tells what comes of it. -/
namespace DL
open PySem L2
open ZT (PT)
abbrev Deed := Bag → Res PD
def TDeed (K : Fg) (mg : Str → Option Value) (mF : Deed → Bag → Res PD) : (XK → Hp → VK → Prop) → Hp → VK → Prop := fun tl H Q =>
  ∃ (w : Wd) (G : Hp) (B : Bag) (r : Deed), Ok w G H B ∧
    (∀ (E : XK) (G' H' : Hp) (B' : Bag) (Q' : VK), B' = B → Step w G H G' H' → Ok w G' H' B' → PostE K mg w G' H' (r B') Q' E → tl E H' Q') ∧
    PostE K mg w G H (mF r B) Q (fun _ _ _ => False)
/-- try: return (tg, act()); except c as n: return (items) -/
def mTold (tg c : Str) (mh : List (Str × PD) → Option (List PD)) : Deed → Bag → Res PD := fun r B => match r B with
  | .ok d B1 => .ok (.tuple [.str tg, d]) B1
  | .exc c' as B1 => if c' = c then (match mh as with
    | some ds => if ds.length ≤ sizeLine then .ok (.tuple ds) B1 else .bad
    | none => .bad) else .bad
  | .bad => .bad
abbrev ToldX (X : Cx) (Ng : List Str) (x : Str) (sg : Scope) (g : Addr) (cdg : Value) (s : Shared) (H : Hp) : Cx := (cxOf C8.CX0 X.prog X.w X.K X.mg X.base Ng x sg g cdg X.A X.stack s H C8.E0).nox
theorem gives_told (K : Fg) (mg : Str → Option Value) {X : Cx} {Ng : List Str} {x a n q tg c : Str} {sg : Scope} {g C : Addr} {cdg : Value} {i j kt kt2 : Nat} {es : List Expr} {th : Addr → Value → Option Addr → TA} {mh : List (Str × PD) → Option (List PD)} {p1 p2 p3 p4 p5 p6 p7 p8 p9 p10 p11 : Pos}
    (hh : ∀ (s : Shared) (H : Hp), HD (ToldX X Ng x sg g cdg s H) i C es th mh) (hN : Ng.Nodup) (hil : i < Ng.length) (hC : mg c = some (.ref C)) (hte : PySem.W.exmOne K (.ref C) (.ref C) = some true) (h0 : ∀ f : Addr, (L2.start Ng [V.ref f])[0]? = some (some (V.ref f)))
    (hse : ∀ (s : Shared) (H : Hp) (pn : List (Addr × Obj)) (xe : Value → Shared → Prop), starEach [.Constant (.str tg) j p1, .Call (.Name a p2) [] [] p3] ((ToldX X Ng x sg g cdg s H).tr pn xe).env = (false, eval (.Constant (.str tg) j p1) ((ToldX X Ng x sg g cdg s H).tr pn xe).env) :: starEach [.Call (.Name a p2) [] [] p3] ((ToldX X Ng x sg g cdg s H).tr pn xe).env := by exact fun _ _ _ _ => rfl)
    (hse2 : ∀ (s : Shared) (H : Hp) (pn : List (Addr × Obj)) (xe : Value → Shared → Prop), starEach [.Call (.Name a p2) [] [] p3] ((ToldX X Ng x sg g cdg s H).tr pn xe).env = (false, eval (.Call (.Name a p2) [] [] p3) ((ToldX X Ng x sg g cdg s H).tr pn xe).env) :: starEach [] ((ToldX X Ng x sg g cdg s H).tr pn xe).env := by exact fun _ _ _ _ => rfl)
    (hi : Ng[i]? = some n := by rfl) (hln : ∀ (s : Shared) (H : Hp), (ToldX X Ng x sg g cdg s H).env.kindOf n = some .local := by exact fun _ _ => rfl) (hg : ∀ (s : Shared) (H : Hp), Gl (ToldX X Ng x sg g cdg s H) c := by exact fun _ _ => rfl) (hdb : (c == ("__debug__" : Str)) = false := by decide)
    (hK : X.K = K := by rfl) (hM : X.mg = mg := by rfl) :
    LamX.GivesTo X Ng x sg g cdg [.Try [.Return (some (.Tuple [.Constant (.str tg) j p1, .Call (.Name a p2) [] [] p3] kt p4)) p5] [.ExceptHandler (some (.Name c p6)) (some n) [.Return (some (.Tuple es kt2 p7)) p8] p9] [] [] p10] a q (TDeed K mg (mTold tg c mh)) := by
  subst hK hM
  intro f c' s H Q tl act hc h
  obtain ⟨w, G, B, r, o, hr, hp⟩ := h
  refine ⟨_, pss_one (ps_try_as (X := ToldX X Ng x sg g cdg s H) (i := i)
      (tb := fun W D σ H => ∃ Ech : XK, (∀ cls d σ' H', Ech cls d H' → W cls d σ' H') ∧ σ[0]? = some (some (.ref f)) ∧ H c' = some (LamX.CodeO c' q) ∧ tl Ech H fun v H1 => [V.str tg, v].length ≤ sizeLine ∧ ZT.Mk D.rt [.str tg, v] H1)
      rfl rfl hN hi (hln s H) ⟨hg s H, hdb, .inl hC⟩ LamX.takes0 (fun W pn xe tk _ => ?_) (fun a oe cls d pn hz hfl => pss_one (ps_ret (ZT.pe_tupP ((hh s H).pe a oe cls d pn hz hfl))))), ?_⟩
  · refine ⟨fun pins s' σ H' D I h' => ?_⟩
    obtain ⟨Ech, hW, h1, h2, h3⟩ := h'
    have hp := act W pn xe Ech p2 p3 tk hW
    have hq := pss_one (ps_ret (pos := p5) (ZT.pe_tupP (pos := p4) (x1 := kt) (pa_cons (pe_str (x := tg) (j := j) (pos := p1)) (pa_cons hp pa_nil (hse2 s H pn xe)) (hse s H pn xe))))
    exact hq.run pins s' σ H' D I ⟨h1, h2, h3⟩
  · refine ⟨fun cls d H' => ∀ σ', wAs X.K (.ref C) i (fun a cls d => tRet (ZT.tTupP (th a cls d))) (fun _ _ _ _ => False) { nx := fun _ H' => Q .non H', rt := Q } cls d σ' H', fun cls d σ' H' z => z σ', h0 f, hc, hr _ G H B _ rfl Step.refl o ?_⟩
    unfold mTold at hp
    cases e : r B with
    | bad => rw [e] at hp; exact hp.elim
    | ok d B1 =>
      rw [e] at hp
      intro v G' H' s1 o1 d1
      refine ⟨by show 2 ≤ sizeLine; decide, fun p ob hp' hd => hp (.ref p) _ _ (s1.trans (Step.new o1.sub hp')) (o1.new hp') (.tup (PT.new hd) (.cons (.str tg) (.cons (d1.mono (sub_upd (o1.free hp'))) .nil)))⟩
    | exc c2 as B1 =>
      rw [e] at hp
      have hp : PostE X.K X.mg w G H (if c2 = c then (match mh as with | some ds => if ds.length ≤ sizeLine then .ok (.tuple ds) B1 else .bad | none => .bad) else .bad) Q (fun _ _ _ => False) := hp
      by_cases hcc : c2 = c
      · rw [if_pos hcc] at hp
        cases em : mh as with
        | none => rw [em] at hp; exact hp.elim
        | some ds =>
          rw [em] at hp
          have hp : PostE X.K X.mg w G H (if ds.length ≤ sizeLine then .ok (.tuple ds) B1 else .bad) Q (fun _ _ _ => False) := hp
          by_cases hl : ds.length ≤ sizeLine
          · rw [if_pos hl] at hp
            intro cls dd fs G' H' m s1 o1 hd hfs σ'
            rw [hcc] at m
            have ec : cls = .ref C := Option.some.inj (m.symm.trans hC)
            subst ec
            refine ⟨true, hte, fun _ a ha => ?_, fun z => Bool.noConfusion z⟩
            refine (hh s H).sem a dd fs as ds _ G' H' _ (fun hlen => List.getElem?_set_self (by rw [List.length_set] at hlen; rw [hlen]; exact hil)) hd hfs em fun vs rr => ⟨by rw [rr.length]; exact hl, fun p ob hp' hob => ?_⟩
            exact hp (.ref p) _ _ (s1.trans (Step.new o1.sub hp')) (o1.new hp') (.tup (PT.new hob) (rr.mono (sub_upd (o1.free hp'))))
          · rw [if_neg hl] at hp; exact hp.elim
      · rw [if_neg hcc] at hp; exact hp.elim
/-- F(lambda: body) -/
def mLam (mF : Deed → Bag → Res PD) (m : EnvM → Bag → Res PD) : EnvM → Bag → Res PD := fun env B => match mF (m env) B with
  | .ok d B2 => .ok d B2
  | _ => .bad
theorem takes_lam {X : Cx} {A : Around} {outer : List Env} {s : Shared} {H : Hp} {E : XK} {scope : Scope} {f c' : Addr} : Takes (LamX.lamCx X A outer s H E scope f c') (WX1 E) := takes_of rfl rfl rfl rfl
/-- what the making of a lambda asks of the def X -/
structure LamOK (X : Cx) (c P : Addr) : Prop where
  TB : LamX.TabB X.base X.mg c P
  code : X.env.code = .ref c
  mem : (P, X.env.qual ++ "<lambda>") ∈ TK X.K
  uni : ∀ p ∈ TK X.K, p.1 = P → p.2 = X.env.qual ++ "<lambda>"
theorem ed_lam (K : Fg) (mg : Str → Option Value) {X : Cx} {W : WX} {mF : Deed → Bag → Res PD} {x a : Str} {g c P : Addr} {k : Nat} {st : Stmt} {fd : FuncData} {Ng : List Str} {params : Arguments} {body : Expr} {scope : Scope} {t : XK → TE} {m : EnvM → Bag → Res PD} {p lpos pos : Pos}
    (F : C8.Def K mg x st g fd) (b : Binds K fd [a] []) (Sg : FnScope Ng [a] (C8.fnScope st)) (hG : ∀ cdv, LamX.GivesTo X Ng x (C8.fnScope st) g cdv (C8.fnBody st) a (X.env.qual ++ "<lambda>") (TDeed K mg mF)) (L : LamOK X c P) (hr : Room (k + 2) X.A)
    (LS : LamX.LamS X.env.scope scope) (hbody : ∀ (A : Around) (outer : List Env) (s : Shared) (H : Hp) (E : XK) (f c' : Addr), Room k (A.deeper (LamX.lamEnv X scope s.heap.objs.size f c')) → ED (LamX.lamCx X A outer s H E scope f c') (WX1 E) body (t E) m)
    (hNg : Ng[0]? = some a := by rfl) (hva : Vis (C8.fnScope st) a := by first | exact Or.inl rfl | exact Or.inr (Or.inl rfl) | exact Or.inr (Or.inr rfl)) (hg : Gl X x := by rfl) (hdef : defaultsOf params X.env = ([], []) := by rfl)
    (hbind : ∀ (q : Str) (cl : List (Str × Addr)) (pm cv ctv : Value), bindArgs (PySem.W.kla_fn "<lambda>" q params body scope cl pm cv ctv) ⟨[], []⟩ = pure [] := by exact fun _ _ _ _ _ => rfl)
    (hdb : (x == ("__debug__" : Str)) = false := by decide) (hd : (a == ("__debug__" : Str)) = false := by decide) (hcd : (a == ("__classdict__" : Str)) = false := by decide) (hK : X.K = K := by rfl) (hM : X.mg = mg := by rfl) :
    ED X W (.Call (.Name x p) [.Lambda params body scope lpos] [] pos) (LamX.tLam (TK K) (TDeed K mg mF) t) (mLam mF m) := by
  subst hK hM
  obtain ⟨oc, od, dV, kV, doc, pm, an, cdv, ct, osl, rfl, lk, hcd'⟩ := F.fn.ex
  refine ⟨LamX.pe_lamcall hg F.mgf F.kp lk hcd' b Sg hNg hva (hG cdv) L.TB L.code L.mem L.uni hr LS hdef hbind (fun A outer s H E f c' hr2 => (hbody A outer s H E f c' hr2).pe) hdb hd hcd, fun w G0 H0 σ env G H B Q R h => ?_⟩
  refine ⟨by rw [← R.wk]; exact R.ok.tabs, fun H1 eN hT => ?_⟩
  have hs : Step w G H G H1 := ⟨fun _ _ z => z, fun _ _ z => .inl z, fun a o _ n z => eN a o z n, fun a o n z => ⟨o, n, eN a o z n⟩⟩
  have ho : Ok w G H1 B := by
    refine ⟨fun a o z => eN a o (R.ok.sub a o z) fun ps e => R.ok.gt a ps (by rw [← e]; exact z), fun b l e => ?_, R.ok.gb, by rw [R.wk]; exact hT, R.ok.gt, R.ok.gl⟩
    obtain ⟨b1, b2, b3⟩ := R.ok.bag b l e
    exact ⟨eN _ _ b1 (fun _ z => by cases z), b2, eN _ _ b3 (fun _ z => by cases z)⟩
  refine ⟨w, G, B, m env, ho, fun E G' H' B' Q' eB s1 o1 hp => ?_, PostR.step hs ?_⟩
  · subst eB
    exact (hbody (X.A.deeper X.env) X.outer X.s_0 H E 0 0 ((hr.deeper _).deeper _)).sem w G0 H0 σ env G' H' B' Q' (R.step (hs.trans s1) o1) hp
  · unfold mLam at h
    cases e : mF (m env) B with
    | ok d B2 => rw [e] at h; exact h
    | exc c as B2 => rw [e] at h; exact h.elim
    | bad => rw [e] at h; exact h.elim
end DL
set_option Elab.async false
set_option linter.all false
set_option maxRecDepth 100000
set_option maxHeartbeats 2000000
/-! DL22: the law's frame where lambdas are made. -/
namespace DL
open PySem L2 C8
/-- what is known of a def x that makes lambdas -/
structure LamK (K : Fg) (mg : Str → Option Value) (base : Heap) (fd : FuncData) (x : Str) (c P : Addr) : Prop where
  code : fd.code = .ref c
  TB : LamX.TabB base mg c P
  mem : (P, lamQ x) ∈ TK K
  uni : ∀ p ∈ TK K, p.1 = P → p.2 = lamQ x
theorem LamK.ok {K : Fg} {mg : Str → Option Value} {base : Heap} {fd : FuncData} {x : Str} {c P : Addr} (L : LamK K mg base fd x c P) {X : Cx} {cdv : Value} (hcd : fd.code = cdv) (hb : X.base = base) (hK : X.K = K) (hM : X.mg = mg) (hq : X.env.qual ++ "<lambda>" = lamQ x) (hc : X.env.code = cdv) : LamOK X c P := by
  subst hb hK hM
  exact ⟨L.TB, by rw [hc, ← hcd]; exact L.code, by rw [hq]; exact L.mem, by rw [hq]; exact L.uni⟩
theorem fn0C {P : Program} {w : World} {K : Fg} {mg : Str → Option Value} {base : Heap} {x qual : Str} {st : Stmt} {f : Addr} {fd : FuncData} {N ps : List Str} {k : Nat} {sp : Sp} (F : C8.Fun K x qual st f fd) (S : FnScope N ps (C8.fnScope st)) (len : ∀ vs H Q E, sp vs H Q E → vs.length = ps.length)
    (hbody : ∀ (cdv : Value), fd.code = cdv → ∀ (A : Around) (outer : List Env) (s : Shared) (H : Hp) (vs : List V) (Q : VK) (E : XK), Room k (A.deeper (PyProof.Rows.envOfC qual (C8.fnScope st) s.heap.objs.size f cdv)) → sp vs H Q E →
      ∃ t, PSs (cxOf C8.CX0 P w K mg base N qual (C8.fnScope st) f cdv A outer s H E).nox (C8.fnBody st) t ∧ t { nx := fun _ H' => Q .non H', rt := Q } (L2.start N vs) H) : FnOk P w K mg base C8.CX0 (k + 1) f fd ps sp := by
  obtain ⟨oc, od, dV, kV, doc, pm, an, cdv, ct, osl, rfl, lk, hcd⟩ := F.ex
  refine fn_of lk hcd S len fun A outer s H vs Q E hr hsp => ?_
  obtain ⟨t, h, q⟩ := hbody cdv rfl A outer s H vs Q E hr hsp
  exact ⟨t, h.nox, q⟩
theorem def_okC {P : Program} {w : World} {K : Fg} {mg : Str → Option Value} {base : Heap} {x : Str} {st : Stmt} {f : Addr} {fd : FuncData} {N ps : List Str} {k n : Nat} {m : EnvM → Bag → SRes} (F : C8.Def K mg x st f fd) (b : Binds K fd ps []) (S : FnScope N ps (C8.fnScope st)) (hn : n = ps.length)
    (hbody : ∀ (cdv : Value), fd.code = cdv → ∀ (A : Around) (outer : List Env) (s : Shared) (H : Hp) (E : XK), Room k (A.deeper (PyProof.Rows.envOfC x (C8.fnScope st) s.heap.objs.size f cdv)) → ∃ t, SDs (BX P w K mg base N x st f cdv A outer s H E) W0 (C8.fnBody st) t m) :
    Cal P w K mg base (k + 1) x (SpF K mg n (mFn N.length m)) [] := by
  subst hn
  refine ⟨f, fd, ps, [], fn0C F.fn S (fun vs H Q E h => h.1) fun cdv hcd A outer s H vs Q E hr h => ?_, F.mgf, F.kp, b, .nil⟩
  obtain ⟨hl, w, G, B, ss, o, wk, r, q⟩ := h
  obtain ⟨t, ht⟩ := hbody cdv hcd A outer s H E hr
  refine ⟨t, ht.pe, ht.sem w G H (L2.start N vs) (env0 N.length ss) G H B _ (start_rel o wk r) ?_⟩
  unfold mFn at q
  cases e : m (env0 N.length ss) B with
  | nx env' B' => rw [e] at q; exact fun σ' G' H' R' s' => q .non G' H' R'.ent R'.ok .non
  | ret d B' => rw [e] at q; exact q
  | exc c as e1 B' => rw [e] at q; exact fun σ' cls dd fs G' H' m R' _ d f => q cls dd fs G' H' m R'.ent R'.ok d f
  | bk env' B' => rw [e] at q; exact q.elim
  | ct env' B' => rw [e] at q; exact q.elim
  | bad => rw [e] at q; exact q.elim
/-- the law's promise, the tables empty -/
def spLawT (K : Fg) : Sp := fun vs H Q _ => ∃ (a : Addr) (ns : List Int), vs = [.ref a] ∧ SqL K H a (ns.map V.int) ∧ ns.length ≤ 63 ∧ (∀ p ∈ TK K, H p.1 = some (.tbl #[])) ∧ ∀ H', Q (.bl true) H'
theorem tabs0 {K : Fg} {H : Hp} (h : ∀ p ∈ TK K, H p.1 = some (.tbl #[])) : LamX.Tabs (TK K) H := fun p hp => LamX.TabS.nil (h p hp)
theorem tab_by {K : Fg} {x : Str} {f c P : Addr} {e1 e2 : Value} {d1 d2 : Option Addr} {fd : FuncData} {s1 s2 : Array (Option Value)} {vs : Array Value} (h1 : PySem.W.nsIn K mainGlobals x = some (some (.ref f))) (h2 : K.lookup f = some ⟨e1, d1, .func fd, s1⟩) (h3 : fd.code = .ref c) (h4 : K.lookup c = some ⟨e2, d2, .fields vs, s2⟩) (h5 : vs[11]? = some (.ref P)) :
    PySem.W.tabIn K x = some (c, P) := by
  unfold PySem.W.tabIn
  simp only [h1, h2, h3, h4, h5]
theorem tab_no {K : Fg} {x : Str} (h1 : PySem.W.nsIn K mainGlobals x = some none) : PySem.W.tabIn K x = none := by
  unfold PySem.W.tabIn
  simp only [h1]
theorem exm_me {K : Fg} {S : Addr} (h1 : PySem.W.subIn K (.ref S) (.type "BaseException") = some true) (h2 : PySem.W.isClsIn K S = true) (h3 : PySem.W.typeIn K (.ref S) = some (.type "type")) (h4 : PySem.W.subIn K (.ref S) (.ref S) = some true) : PySem.W.exmOne K (.ref S) (.ref S) = some true := by
  have z : (PySem.W.clsIn K S).isSome = true := h2
  unfold PySem.W.exmOne PySem.W.kitCls
  simp [h1, z, h3, h4]
theorem walkT {l : PySem.W.OpenLaw} {q : Program} {loose : List Str} {XP : (Str → Option Value) → Heap → Prop} {YP : World → Heap → Prop} {d : DefRec} {K : Params → PySem.W.Frag} {k : Nat} (hn : l.most = some 63) (hdf : d.params.defaults = []) (hr : Room k callerA)
    (hY : ∀ (w : World) (h : Heap), YP w h → (K w.params).In h)
    (F : ∀ (w : World) (mg : Str → Option Value) (fa : Addr) (h : Heap), (K w.params).In h → h.Ns mainGlobals mg → mg d.name = some (.ref fa) →
      (∀ (x : Str) (c P : Addr), ((PyProof.Rows.recsOf q).find? fun e => e.name == x).isSome = true → PySem.W.tabIn (K w.params) x = some (c, P) → PySem.W.CodeHd h c P ∧ h.get? P = some { cls := .none, data := .fields #[] }) →
      LamX.LawAtS l w (K w.params) C8.CX0 k 63 "script" mg fa h) :
    PySem.W.WalkO q loose XP YP l.row.toRowW d [] (fun f vs => PySem.call f vs) := by
  refine Att.attach_callB hn hdf fun w s₀ s₁ mg mb fa o pm cd doc a vs ns G Y ho hd hcd hmg hobj hints hlen hbits hg => ?_
  have KX := hY w _ Y
  obtain ⟨fd, cs, sp, hT, nT, C, hb, hsp, hF⟩ := F w mg fa _ KX G.T.g hmg fun x c P hrx e => by
    cases hf : (PyProof.Rows.recsOf q).find? fun e => e.name == x with
    | none => rw [hf] at hrx; cases hrx
    | some dr => exact PySem.W.tab_of G.T KX hf e
  exact LamX.law_callTs KX G.T.g G.T.b G.T.builtins G.T.nolimit hg hT nT C G.T.bmain hobj hints (Nat.le_trans hlen (by decide)) hr hF hb (fun H hH hS => hsp H a ns hlen hbits hH hS) fun H e s' z => z
end DL
set_option Elab.async false
set_option linter.all false
set_option maxRecDepth 100000
set_option maxHeartbeats 4000000
/-! DL12: dicts of one's own: made, filled, asked. -/
namespace DL
open PySem L2
open ZT (PT)
theorem keyP_keyD (k : Key) : keyP (keyD k) = some k := by cases k <;> rfl
def hasP (ds : List (PD × PD)) (k : Key) : Bool := ds.any fun e => decide (keyP e.1 = some k)
def putP (ds : List (PD × PD)) (k : Key) (d : PD) : List (PD × PD) := if hasP ds k = true then ds.map (fun e => if keyP e.1 = some k then (e.1, d) else e) else ds ++ [(keyD k, d)]
theorem DKs.has {K : Fg} {G : Hp} (k : Key) : ∀ {kvs : List (Key × V)} {ds : List (PD × PD)}, DKs K G kvs ds → (kvs.any fun kv => decide (kv.1 = k)) = hasP ds k
  | _, _, .nil => rfl
  | _, _, .cons (k := j) (v := v) (kvs := kvs) (d := d) (ds := ds) h r => by
    have ih := DKs.has k r
    show (decide (j = k) || kvs.any _) = (decide (keyP (keyD j) = some k) || hasP ds k)
    rw [ih, keyP_keyD]
    congr 1
    refine decide_eq_decide.mpr ⟨fun e => by rw [e], fun e => Option.some.inj e⟩
theorem DKs.append {K : Fg} {G : Hp} : ∀ {a b : List (Key × V)} {ds es : List (PD × PD)}, DKs K G a ds → DKs K G b es → DKs K G (a ++ b) (ds ++ es)
  | _, _, _, _, .nil, r => r
  | _, _, _, _, .cons h t, r => .cons h (DKs.append t r)
theorem DKs.upd {K : Fg} {G : Hp} {v : V} {d : PD} (k : Key) (q : DR K G v d) : ∀ {kvs : List (Key × V)} {ds : List (PD × PD)}, DKs K G kvs ds → DKs K G (kvs.map fun kv => if kv.1 = k then (kv.1, v) else kv) (ds.map fun e => if keyP e.1 = some k then (e.1, d) else e)
  | _, _, .nil => .nil
  | _, _, .cons (k := j) (v := u) (d := e) h r => by
    have ih := DKs.upd k q r
    rw [List.map_cons, List.map_cons]
    by_cases hj : j = k
    · have hk : keyP (keyD j) = some k := by rw [keyP_keyD, hj]
      show DKs K G ((if j = k then (j, v) else (j, u)) :: _) ((if keyP (keyD j) = some k then (keyD j, d) else (keyD j, e)) :: _)
      rw [if_pos hj, if_pos hk]
      exact .cons q ih
    · have hk : ¬ keyP (keyD j) = some k := by rw [keyP_keyD]; exact fun z => hj (Option.some.inj z)
      show DKs K G ((if j = k then (j, v) else (j, u)) :: _) ((if keyP (keyD j) = some k then (keyD j, d) else (keyD j, e)) :: _)
      rw [if_neg hj, if_neg hk]
      exact .cons h ih
theorem DKs.put {K : Fg} {G : Hp} {v : V} {d : PD} {kvs : List (Key × V)} {ds : List (PD × PD)} (k : Key) (q : DR K G v d) (r : DKs K G kvs ds) : DKs K G (putK kvs k v) (putP ds k d) := by
  unfold putK putP
  rw [r.has k]
  by_cases h : hasP ds k = true
  · rw [if_pos h, if_pos h]
    exact r.upd k q
  · rw [if_neg h, if_neg h]
    exact r.append (.cons q .nil)
theorem DKs.length {K : Fg} {G : Hp} : ∀ {kvs : List (Key × V)} {ds : List (PD × PD)}, DKs K G kvs ds → kvs.length = ds.length
  | _, _, .nil => rfl
  | _, _, .cons _ r => by rw [List.length_cons, List.length_cons, DKs.length r]
/-! ### the slots -/
theorem Rel.setOwnD {K : Fg} {w : Wd} {G0 H0 : Hp} {σ : L2.St} {env : EnvM} {G H G1 H1 : Hp} {B B1 : Bag} {p : Addr} {kvs : List (Key × V)} {ds : List (PD × PD)} (R : Rel K w G0 H0 σ env G H B) (s : Step w G H G1 H1) (o : Ok w G1 H1 B1) (i : Nat) (hn : NN (H p)) (hp : H1 p = some (.dK kvs)) (hg : G1 p = none) (hb : Nb w p) (r : DKs K G1 kvs ds) :
    Rel K w G0 H0 (σ.set i (some (.ref p))) (env.set i (some (.ownD ds))) G1 H1 B1 := by
  have h0 : NN (H0 p) := R.ent.back0 hn
  refine (R.step s o).put i (fun sv e => by cases e; exact ⟨_, rfl, p, kvs, rfl, hg, h0, hb, hp, r⟩) fun sv e _ j sj q hij ej oj eq z => ?_
  cases eq
  obtain ⟨v, h1, h2⟩ := R.slot j sj ej
  cases sj with
  | d x => cases oj
  | bag => cases oj
  | own ys =>
    obtain ⟨p', vs', e1, _, _, _, hp', _⟩ := h2
    subst e1
    rw [h1] at z
    cases z
    exact hn.ne hp' (fun _ z => by cases z) rfl
  | ownD ys =>
    obtain ⟨p', vs', e1, _, _, _, hp', _⟩ := h2
    subst e1
    rw [h1] at z
    cases z
    exact hn.ne hp' (fun _ z => by cases z) rfl
theorem Rel.upOwnD {K : Fg} {w : Wd} {G0 H0 : Hp} {σ : L2.St} {env : EnvM} {G H : Hp} {B : Bag} {p : Addr} {kvs' : List (Key × V)} {ds ds' : List (PD × PD)} (R : Rel K w G0 H0 σ env G H B) (i : Nat) (e : env[i]? = some (some (.ownD ds))) (hs : σ[i]? = some (some (.ref p))) (r : DKs K G kvs' ds') (hg : G p = none) (h0 : NN (H0 p)) (hb : Nb w p) (hx : ∀ q, H p ≠ some (LamX.CodeO p q)) :
    Rel K w G0 H0 σ (env.set i (some (.ownD ds'))) G (L2.upd H p (.dK kvs')) B := by
  have hi : i < env.length := (List.getElem?_eq_some_iff.mp e).1
  refine ⟨R.ok.mut hg hb hx, ⟨R.ent.exG, R.ent.fr, fun a o n nt q => by rw [upd_ne (h0.ne q nt)]; exact R.ent.keep a o n nt q, fun a o nt q => by rw [upd_ne (h0.ne q nt)]; exact R.ent.there a o nt q⟩, by rw [List.length_set]; exact R.len, fun j sv ej => ?_, fun j k sj sk q hjk ej oj ek ok => ?_, R.wk⟩
  · by_cases hij : i = j
    · subst hij
      rw [List.getElem?_set_self hi] at ej
      cases ej
      exact ⟨_, hs, p, kvs', rfl, hg, h0, hb, upd_same, r⟩
    · rw [List.getElem?_set_ne hij] at ej
      obtain ⟨v, h1, h2⟩ := R.slot j sv ej
      refine ⟨v, h1, ?_⟩
      have npp : ∀ p' : Addr, sv.isOwn = true → v = .ref p' → p' ≠ p := fun p' ow ev z => by
        subst z
        subst ev
        exact R.dist i j _ _ p' hij e rfl ej ow hs h1
      cases sv with
      | d x => exact h2
      | bag => exact h2
      | own ys =>
        obtain ⟨p', us, e1, g', h0', hb', hp', r'⟩ := h2
        exact ⟨p', us, e1, g', h0', hb', by rw [upd_ne (npp p' rfl e1)]; exact hp', r'⟩
      | ownD ys =>
        obtain ⟨p', us, e1, g', h0', hb', hp', r'⟩ := h2
        exact ⟨p', us, e1, g', h0', hb', by rw [upd_ne (npp p' rfl e1)]; exact hp', r'⟩
  · have back : ∀ (j : Nat) (sj : SV), (env.set i (some (.ownD ds')))[j]? = some (some sj) → sj.isOwn = true → ∃ s', env[j]? = some (some s') ∧ s'.isOwn = true := fun j sj ej oj => by
      by_cases hij : i = j
      · subst hij; exact ⟨_, e, rfl⟩
      · rw [List.getElem?_set_ne hij] at ej; exact ⟨sj, ej, oj⟩
    obtain ⟨s1, q1, q2⟩ := back j sj ej oj
    obtain ⟨s2, q3, q4⟩ := back k sk ek ok
    exact R.dist j k s1 s2 q hjk q1 q2 q3 q4
theorem ownD_at {K : Fg} {w : Wd} {G0 H0 : Hp} {σ : L2.St} {env : EnvM} {G H : Hp} {B : Bag} {i : Nat} {ds : List (PD × PD)} (R : Rel K w G0 H0 σ env G H B) (e : env[i]? = some (some (.ownD ds))) : ∃ p kvs, σ[i]? = some (some (.ref p)) ∧ G p = none ∧ NN (H0 p) ∧ Nb w p ∧ H p = some (.dK kvs) ∧ DKs K G kvs ds := by
  obtain ⟨v, h1, p, kvs, rfl, h2⟩ := R.slot i _ e
  exact ⟨p, kvs, h1, h2⟩
section
variable {X : Cx} {W : WX}
/-- x = {} -/
def mDNew (i : Nat) : EnvM → Bag → SRes := fun env B => .nx (env.set i (some (.ownD []))) B
theorem sd_dnew (i : Nat) {x : Str} {p1 pos pos' : Pos} (hN : X.N.Nodup) (hi : X.N[i]? = some x := by rfl) (hx : Loc X.env.scope x := by first | exact Or.inl rfl | exact Or.inr rfl)
    (hs : swapsWith (.Dict [] [] p1) (some (.Name x pos')) pos.line X.env = pure false := by rfl) (hf : X.fn x = true ∨ X.env.scope.names.lookup x = some .local := by first | exact .inl rfl | exact .inr rfl) :
    SD X W (.Assign [.Name x pos'] (.Dict [] [] p1) pos) (tAsg tDNewK (gName i)) (mDNew i) := by
  refine ⟨ps_set hN hi hx pe_dnewK hs hf, fun w G0 H0 σ env G H B D R h p hp => ?_⟩
  exact h _ G _ (R.setOwnD (Step.newH hp) (R.ok.newH hp) i (.inl hp) upd_same (R.ok.free hp) (R.ok.nb hp) .nil) (Sub.refl G)
/-- x[k] = v: the value first -/
def mDPut (i : Nat) (mk mv : EnvM → Bag → Res PD) : EnvM → Bag → SRes := fun env B => (mv env B).s env fun d B1 => match env[i]? with
  | some (some (.ownD ds)) => (mk env B1).s env fun kd B2 => (match keyP kd with
    | some k => if ds.length < sizeLine then .nx (env.set i (some (.ownD (putP ds k d)))) B2 else .bad
    | none => .bad)
  | _ => .bad
theorem sd_dput (i : Nat) {x : Str} {ek ev : Expr} {tk tv : TE} {mk mv : EnvM → Bag → Res PD} {p1 pos pos' : Pos} (hu : X.A.units + 1 < cLine) (hk : ED X W ek tk mk) (hv' : ED X W ev tv mv) (hN : X.N[i]? = some x := by rfl) (hv : Vis X.env.scope x := by first | exact Or.inl rfl | exact Or.inr (Or.inl rfl) | exact Or.inr (Or.inr rfl))
    (hd : (x == ("__debug__" : Str)) = false := by decide) (hcd : (x == ("__classdict__" : Str)) = false := by decide) (hs : swapsWith ev (some (.Subscript (.Name x p1) ek pos')) pos.line X.env = pure false := by rfl) :
    SD X W (.Assign [.Subscript (.Name x p1) ek pos'] ev pos) (sDPut (tVar i) tk tv) (mDPut i mk mv) := by
  refine ⟨ps_dput hu (pe_var hN hv hd hcd) hk.pe hv'.pe hs, fun w G0 H0 σ env G H B D R h => ?_⟩
  refine hv'.sem w G0 H0 σ env G H B _ R (PostS.bind R (Sub.refl _) h fun d B1 v G1 H1 s1 o1 d1 h1 => ?_)
  have R1 := R.step s1 o1
  split at h1
  · rename_i ds q
    obtain ⟨p, kvs, e1, e2, e3, e4, e5, e6⟩ := ownD_at R1 q
    refine ⟨_, e1, ?_⟩
    refine hk.sem w G0 H0 σ env G1 H1 B1 _ R1 (PostS.bind R1 s1.exG h1 fun kd B2 y G2 H2 s2 o2 d2 h2 => ?_)
    cases ek : keyP kd with
    | none => simp only [ek] at h2; exact h2.elim
    | some k =>
      simp only [ek] at h2
      by_cases hl : ds.length < sizeLine
      · rw [if_pos hl] at h2
        have R2 := R1.step s2 o2
        have hp2 := s2.keep p _ e4.one (fun _ z => by cases z) e5
        have ey : y = kV k := keyV d2 ek
        subst ey
        have hg2 : G2 p = none := s2.notIn e2 e5
        refine ⟨p, L2.upd H2 p (.dK (putK kvs k v)), rfl, DPut.k hp2 (by rw [e6.length]; exact hl), ?_⟩
        exact h2 σ G2 _ (R2.upOwnD i q e1 ((e6.mono s2.exG).put k (d1.mono s2.exG)) hg2 e3 e4 (fun _ => by rw [hp2]; exact noCo (fun _ z => by cases z))) (Sub.trans s1.exG s2.exG)
      · rw [if_neg hl] at h2; exact h2.elim
  · exact h1.elim
/-- k in x, x a dict of one's own -/
def mInOwn (i : Nat) (mk : EnvM → Bag → Res PD) : EnvM → Bag → Res Bool := fun env B => (mk env B).bind fun kd B1 => match keyP kd, env[i]? with
  | some k, some (some (.ownD ds)) => .ok (hasP ds k) B1
  | _, _ => .bad
theorem td_inOwn (i : Nat) {x : Str} {ek : Expr} {tk : TE} {mk : EnvM → Bag → Res PD} {p1 pos : Pos} (hu : X.A.units + 1 < cLine) (hk : ED X W ek tk mk) (hN : X.N[i]? = some x := by rfl) (hv : Vis X.env.scope x := by first | exact Or.inl rfl | exact Or.inr (Or.inl rfl) | exact Or.inr (Or.inr rfl))
    (hd : (x == ("__debug__" : Str)) = false := by decide) (hcd : (x == ("__classdict__" : Str)) = false := by decide) :
    TD X W (.Compare ek [.In] [.Name x p1] pos) (tB (tDIn tk (tVar i))) (mInOwn i mk) := by
  refine ⟨pt_cmp (pc_din hu hk.pe (pe_var hN hv hd hcd)) (by with_unfolding_all rfl), fun w G0 H0 σ env G H B Q R h => ?_⟩
  refine hk.sem w G0 H0 σ env G H B _ R (PostR.bind h fun kd B1 y G1 H1 s1 o1 d1 h1 => ?_)
  have R1 := R.step s1 o1
  split at h1
  · rename_i k ds e1 q
    obtain ⟨p, kvs, f1, f2, f3, f4, f5, f6⟩ := ownD_at R1 q
    have ey : y = kV k := keyV d1 e1
    subst ey
    refine ⟨_, f1, p, _, rfl, DGet.k f5, _, rfl, ?_⟩
    rw [← valV_any, f6.has k]
    exact h1 _ G1 H1 Step.refl o1 rfl
  · exact h1.elim
/-- k in e, e a dict among the data -/
def mInDct (mk me : EnvM → Bag → Res PD) : EnvM → Bag → Res Bool := fun env B => (mk env B).bind fun kd B1 => (me env B1).bind fun d B2 => match keyP kd, d with
  | some k, .dict ds => .ok (hasP ds k) B2
  | _, _ => .bad
theorem td_inDct {ek e : Expr} {tk te : TE} {mk me : EnvM → Bag → Res PD} {pos : Pos} (hu : X.A.units + 1 < cLine) (hk : ED X W ek tk mk) (he : ED X W e te me) (hb : behindInMarks .In e = false := by with_unfolding_all rfl) :
    TD X W (.Compare ek [.In] [e] pos) (tB (tDIn tk te)) (mInDct mk me) := by
  refine ⟨pt_cmp (pc_din hu hk.pe he.pe) hb, fun w G0 H0 σ env G H B Q R h => ?_⟩
  refine hk.sem w G0 H0 σ env G H B _ R (PostR.bind h fun kd B1 y G1 H1 s1 o1 d1 h1 => ?_)
  have R1 := R.step s1 o1
  refine he.sem w G0 H0 σ env G1 H1 B1 _ R1 (PostR.bind h1 fun d B2 u G2 H2 s2 o2 d2 h2 => ?_)
  split at h2
  · rename_i k ds e1
    have ey : y = kV k := keyV d1 e1
    subst ey
    cases d2 with
    | dct hx r =>
      refine ⟨_, _, rfl, DGet.k (o2.sub _ _ hx), _, rfl, ?_⟩
      rw [← valV_any, r.has k]
      exact h2 _ G2 H2 Step.refl o2 rfl
  · exact h2.elim
end
end DL
set_option Elab.async false
set_option linter.all false
set_option maxRecDepth 100000
set_option maxHeartbeats 4000000
/-! DL13: an own list or dict becomes data, or is lent to one expression whose value holds no object. -/
namespace DL
open PySem L2
open ZT (PT)
theorem DR.flat {K : Fg} {G G' : Hp} {v : V} {d : PD} (r : DR K G v d) (h : flatP d = true) : DR K G' v d := by
  cases r with
  | non => exact .non
  | bl b => exact .bl b
  | int i => exact .int i
  | str x => exact .str x
  | lst _ _ => cases h
  | tup _ _ => cases h
  | dct _ _ => cases h
theorem Rel.fz {K : Fg} {w : Wd} {G0 H0 : Hp} {σ : L2.St} {env : EnvM} {G H : Hp} {B : Bag} (R : Rel K w G0 H0 σ env G H B) {i : Nat} {sv : SV} {p : Addr} {o : HO} {d : PD} (q : env[i]? = some (some sv)) (ho : sv.isOwn = true) (h1 : σ[i]? = some (some (.ref p))) (g : G p = none) (h0 : NN (H0 p)) (nb : Nb w p) (hp : H p = some o) (hd : DR K (upd G p o) (.ref p) d) (nt : ∀ ps, o ≠ .tbl ps := by intro _ z; cases z) :
    Rel K w G0 H0 σ (env.set i (some (.d d))) (upd G p o) H B := by
  have sg : Sub G (upd G p o) := sub_upd g
  have hi : i < env.length := (List.getElem?_eq_some_iff.mp q).1
  refine ⟨R.ok.freeze nb hp nt, R.ent.freeze g h0, by rw [List.length_set]; exact R.len, fun j sv ej => ?_, fun j k sj sk z hjk ej oj ek ok => ?_, R.wk⟩
  · by_cases hij : i = j
    · subst hij
      rw [List.getElem?_set_self hi] at ej
      cases ej
      exact ⟨_, h1, hd⟩
    · rw [List.getElem?_set_ne hij] at ej
      obtain ⟨v, e1, e2⟩ := R.slot j sv ej
      refine ⟨v, e1, ?_⟩
      cases sv with
      | d x => exact DR.mono sg e2
      | bag => exact e2
      | own ys =>
        obtain ⟨p', us, e3, g', h0', hb', hp', r'⟩ := e2
        subst e3
        have npp : p' ≠ p := fun z => by
          subst z
          exact R.dist i j _ _ p' hij q ho ej rfl h1 e1
        exact ⟨p', us, rfl, by rw [upd_ne npp]; exact g', h0', hb', hp', r'.mono sg⟩
      | ownD ys =>
        obtain ⟨p', us, e3, g', h0', hb', hp', r'⟩ := e2
        subst e3
        have npp : p' ≠ p := fun z => by
          subst z
          exact R.dist i j _ _ p' hij q ho ej rfl h1 e1
        exact ⟨p', us, rfl, by rw [upd_ne npp]; exact g', h0', hb', hp', r'.mono sg⟩
  · have back : ∀ (j : Nat) (sj : SV), (env.set i (some (.d d)))[j]? = some (some sj) → sj.isOwn = true → env[j]? = some (some sj) := fun j sj ej oj => by
      by_cases hij : i = j
      · subst hij
        rw [List.getElem?_set_self hi] at ej
        cases ej; cases oj
      · rw [List.getElem?_set_ne hij] at ej; exact ej
    exact R.dist j k sj sk z hjk (back j sj ej oj) oj (back k sk ek ok) ok
/-- the slot as data -/
def lend (i : Nat) (env : EnvM) : EnvM := match env[i]? with
  | some (some (.own xs)) => env.set i (some (.d (.list xs)))
  | some (some (.ownD ds)) => env.set i (some (.d (.dict ds)))
  | _ => env
theorem Rel.lend {K : Fg} {w : Wd} {G0 H0 : Hp} {σ : L2.St} {env : EnvM} {G H : Hp} {B : Bag} (R : Rel K w G0 H0 σ env G H B) (i : Nat) : ∃ G', Sub G G' ∧ Rel K w G0 H0 σ (lend i env) G' H B := by
  unfold DL.lend
  split
  · rename_i xs q
    obtain ⟨p, vs, h1, g, h0, nb, hp, r⟩ := own_at R q
    exact ⟨_, sub_upd g, R.fz q rfl h1 g h0 nb hp (.lst upd_same (r.mono (sub_upd g)))⟩
  · rename_i ds q
    obtain ⟨p, kvs, h1, g, h0, nb, hp, r⟩ := ownD_at R q
    exact ⟨_, sub_upd g, R.fz q rfl h1 g h0 nb hp (.dct upd_same (r.mono (sub_upd g)))⟩
  · exact ⟨G, Sub.refl G, R⟩
/-- for good -/
def mFz (i : Nat) (m : EnvM → Bag → SRes) : EnvM → Bag → SRes := fun env B => m (lend i env) B
/-- for one expression -/
def mLendE (i : Nat) (m : EnvM → Bag → Res PD) : EnvM → Bag → Res PD := fun env B => match m (lend i env) B with
  | .ok d B1 => if flatP d = true then .ok d B1 else .bad
  | _ => .bad
def mLendT (i : Nat) (m : EnvM → Bag → Res Bool) : EnvM → Bag → Res Bool := fun env B => match m (lend i env) B with
  | .ok d B1 => .ok d B1
  | _ => .bad
theorem Step.back {w : Wd} {G H G1 G' H' : Hp} (s1 : Sub G G1) (s : Step w G1 H G' H') : Step w G H G H' := ⟨fun _ _ h => h, fun _ _ h => .inl h, s.keep, s.there⟩
theorem Ok.back {w : Wd} {G H G' H' : Hp} {B B' : Bag} (k : Ok w G H B) (s1 : Sub G G') (o : Ok w G' H' B') (hc : B'.cells = B.cells) : Ok w G H' B' := ⟨fun a u h => o.sub a u (s1 a u h), o.bag, k.gb, o.tabs, k.gt, fun b l e => by rw [hc]; exact k.gl b l e⟩
section
variable {X : Cx} {W : WX}
theorem sds_fz (i : Nat) {sts : List Stmt} {t : TS} {m : EnvM → Bag → SRes} (h : SDs X W sts t m) : SDs X W sts t (mFz i m) := by
  refine ⟨h.pe, fun w G0 H0 σ env G H B D R hp => ?_⟩
  obtain ⟨G', s, R'⟩ := R.lend i
  exact h.sem w G0 H0 σ (lend i env) G' H B D R' (PostS.sub s hp)
theorem gl_cells {w : Wd} {G G' H H' : Hp} {B B' : Bag} (k : Ok w G H B) (s : Sub G G') (o : Ok w G' H' B') : ∀ b l, w.bg = some (b, l) → G l = some (.lst (B'.cells.map fun n : Nat => V.int (n : Int))) := fun b l e => by
  have h1 := k.gl b l e
  have h2 := o.gl b l e
  have h3 := s _ _ h1
  rw [h2] at h3
  rw [h1, ← h3]
theorem Ok.back' {w : Wd} {G H G' H' : Hp} {B B' : Bag} (k : Ok w G H B) (s1 : Sub G G') (o : Ok w G' H' B') : Ok w G H' B' := ⟨fun a u h => o.sub a u (s1 a u h), o.bag, k.gb, o.tabs, k.gt, gl_cells k s1 o⟩
theorem ed_lend (i : Nat) {e : Expr} {t : TE} {m : EnvM → Bag → Res PD} (h : ED X W e t m) : ED X W e t (mLendE i m) := by
  refine ⟨h.pe, fun w G0 H0 σ env G H B Q R hp => ?_⟩
  obtain ⟨G1, s1, R1⟩ := R.lend i
  refine h.sem w G0 H0 σ _ G1 H B Q R1 ?_
  unfold mLendE at hp
  cases e1 : m (lend i env) B with
  | bad => rw [e1] at hp; exact hp.elim
  | exc c as B1 => rw [e1] at hp; exact hp.elim
  | ok d B1 =>
    rw [e1] at hp
    have hp : PostE X.K X.mg w G H (if flatP d = true then .ok d B1 else .bad) Q (fun c d H' => W c d σ H') := hp
    by_cases hf : flatP d = true
    · rw [if_pos hf] at hp
      exact fun v G' H' s o r => hp v G H' (Step.back s1 s) (R.ok.back' (Sub.trans s1 s.exG) o) (r.flat hf)
    · rw [if_neg hf] at hp; exact hp.elim
theorem td_lend (i : Nat) {e : Expr} {t : TT} {m : EnvM → Bag → Res Bool} (h : TD X W e t m) : TD X W e t (mLendT i m) := by
  refine ⟨h.pe, fun w G0 H0 σ env G H B Q R hp => ?_⟩
  obtain ⟨G1, s1, R1⟩ := R.lend i
  refine h.sem w G0 H0 σ _ G1 H B Q R1 ?_
  unfold mLendT at hp
  cases e1 : m (lend i env) B with
  | bad => rw [e1] at hp; exact hp.elim
  | exc c as B1 => rw [e1] at hp; exact hp.elim
  | ok d B1 =>
    rw [e1] at hp
    exact fun v G' H' s o r => hp v G H' (Step.back s1 s) (R.ok.back' (Sub.trans s1 s.exG) o) r
theorem wd_lend (i : Nat) {e : Expr} {t : TT} {m : EnvM → Bag → Res Bool} (h : WD X W e t m) : WD X W e t (mLendT i m) := by
  refine ⟨h.pe, fun w G0 H0 σ env G H B Q R hp => ?_⟩
  obtain ⟨G1, s1, R1⟩ := R.lend i
  refine h.sem w G0 H0 σ _ G1 H B Q R1 ?_
  unfold mLendT at hp
  cases e1 : m (lend i env) B with
  | bad => rw [e1] at hp; exact hp.elim
  | exc c as B1 => rw [e1] at hp; exact hp.elim
  | ok d B1 =>
    rw [e1] at hp
    exact fun v G' H' s o r => hp v G H' (Step.back s1 s) (R.ok.back' (Sub.trans s1 s.exG) o) r
end
end DL
set_option Elab.async false
set_option linter.all false
set_option maxRecDepth 100000
set_option maxHeartbeats 4000000
/-! ZE: enumerate over a tuple, walked. -/
namespace ZE
open PySem PySem.Spec PyProof.Rows L2
def Iet (K : PySem.W.Frag) (a : Addr) : It :=
  ⟨fun i H => ∃ (xs : List V) (x : V), SqT K H a xs ∧ xs[i]? = some x, fun i H v H' => ∃ T x, v = .ref T ∧ H T = none ∧ H' = upd H T (.tup [.int (i : Nat), x]) ∧ ∀ xs, SqT K H a xs → xs[i]? = some x, fun i H => ∃ xs : List V, SqT K H a xs ∧ xs.length ≤ i⟩
theorem ne_enum {h : Heap} {e it a : Addr} {c : Int} {old : Value} {items : Array Value} (he : IsEnum h e it c old) (ht : h.IsTuple a items) : e ≠ a := fun z => by
  subst z
  obtain ⟨o, h1, h2, _⟩ := ht
  have h3 := he.symm.trans h1
  cases h3
  have q : Value.type "enumerate" = Value.type "tuple" := h2
  injection q with q1
  exact absurd q1 (by decide)
theorem ne_iter {h : Heap} {it a b : Addr} {i : Nat} {items : Array Value} (he : h.IsTupleIter it b i) (ht : h.IsTuple a items) : a ≠ it := fun z => by
  subst z
  obtain ⟨o, h1, h2, _⟩ := ht
  obtain ⟨o', h1', h2', _⟩ := he
  rw [h1] at h1'
  cases h1'
  rw [h2] at h2'
  exact absurd h2' (by decide)
theorem turn_enumT {P : Program} {w : World} {K : PySem.W.Frag} {elts : List Expr} {kk : Nat} {tpos : Pos} (a e it : Addr) :
    Turn P w K (.Tuple elts kk tpos) (Iet K a) [e, it] e (fun i h => (∃ old, IsEnum h e it ((i : Nat) : Int) old) ∧ h.IsTupleIter it a i ∧ e ≠ it) where
  mem := by simp
  obj := fun i h st b hb => by
    obtain ⟨⟨old, he⟩, ⟨o, ho, hc, hd⟩, _⟩ := st
    have e' : b = e ∨ b = it := by simpa using hb
    rcases e' with z | z
    · rw [z]; exact ⟨_, he, fun v q => nomatch q⟩
    · rw [z]; exact ⟨o, ho, fun v q => by rw [hd] at q; cases q⟩
  keep := fun i h h' st k => let ⟨⟨old, he⟩, hi, hne⟩ := st; ⟨⟨old, k e (by simp) _ he⟩, hi.at fun o q => k it (by simp) o q, hne⟩
  item := by
    intro X hP hw hK hc i pins s σ H E I hf st hg
    subst hP hw hK
    obtain ⟨⟨old, he⟩, hit, hne⟩ := st
    obtain ⟨xs, x, hq, hx⟩ := hg
    obtain ⟨its, rv, p, hz⟩ := I.tuple hq
    obtain ⟨u, hu, ru⟩ := rv.get hx
    have hel : e < s.heap.objs.size := Heap.lt_size he
    have hil : it < s.heap.objs.size := by obtain ⟨_, q, _⟩ := hit; exact Heap.lt_size q
    have pT : s.heap.IsTuple a its.toArray := p
    have hea : e ≠ a := ne_enum he pT
    have hai : a ≠ it := ne_iter hit pT
    have hil2 : i < its.toArray.size := by
      have := (List.getElem?_eq_some_iff.mp hu).1
      simpa using this
    refine wpAny_pyNext_enum_itemD (Draws.tuple (A := X.A.in1) (I.ok.hd hc) it a hai its.toArray) he ⟨hit, pT⟩ hil2 hne (by simp [hne, hea]) fun y h' tk hy ho hit' hT hsz hk => ?_
    have ey : y = u := by
      have hy : its.toArray[i]? = some y := hy
      have h2 : its.toArray[i]? = some u := by simpa using hu
      rw [hy] at h2; cases h2; rfl
    subst ey
    refine ⟨_, rfl, wpAny_letOwnedTupleGo_enum (s := { s with heap := h', toks := tk + 1 }) ho fun h'' he' sb => ?_⟩
    have hT2 : h''.get? s.heap.objs.size = some { cls := .type "tuple", data := .seq #[.int i tk, y] } := (sb.2 _ (Nat.ne_of_gt hel)).trans hT
    have new : ObjOk X.prog X.w (upd H s.heap.objs.size (.tup [.int (i : Nat), x])) h'' s.heap.objs.size (.tup [.int (i : Nat), x]) :=
      ⟨by show 2 ≤ sizeLine; decide, [.int i tk, y], .cons ⟨_, rfl⟩ (.cons ru .nil), ⟨_, hT2, rfl, _, rfl⟩⟩
    have I1 : Inv X pins σ (upd H s.heap.objs.size (.tup [.int (i : Nat), x])) { s with heap := h'', toks := tk + 1 } :=
      I.turnedNew (ch := [e, it]) (fun b ob hb q => (sb.2 b (fun z => hb (by simp [z]))).trans (hk b ob (fun z => hb (by simp [z])) (fun z => hb (by simp [z])) q)) hf (Nat.le_refl _) new
    refine ⟨.ref s.heap.objs.size, _, I1, rfl, ⟨_, x, rfl, I.hok.fresh (Nat.le_refl _), rfl, fun ys hy => by rw [I.tuple_inj hy hq]; exact hx⟩, ⟨⟨y, ?_⟩, hit'.1.at fun o q => (sb.2 it (Ne.symm hne)).trans q, hne⟩, fun b hb => ?_⟩
    · have e1 : ((i + 1 : Nat) : Int) = (i : Int) + 1 := by omega
      rw [e1]; exact he'
    · have hb' : b < s.heap.objs.size := by
        have e' : b = e ∨ b = it := by simpa using hb
        rcases e' with z | z
        · rw [z]; exact hel
        · rw [z]; exact hil
      rw [upd_ne (Nat.ne_of_lt hb')]
      exact (hf b hb).1
  done := by
    intro X hP hw hK hc i pins s σ H E I hf st hg
    subst hP hw hK
    obtain ⟨⟨old, he⟩, hit, hne⟩ := st
    obtain ⟨xs, hq, hx⟩ := hg
    obtain ⟨its, rv, p, hz⟩ := I.tuple hq
    obtain ⟨f0, f1, f2, f3, f4, f5⟩ := hf it (by simp)
    have hl := rv.length
    have pT : s.heap.IsTuple a its.toArray := p
    have hT : s.TypeIs (.ref e) "enumerate" := ⟨_, he, rfl⟩
    unfold pyNext
    refine wpAny_bind (wpAny_attempt (wpAny_callSpecial?_slot (name := Str.ofString "__next__") hT F.slot_enumerate_next
      (wpAny_call_entry F.slot_enumerate_next hT F.entry_enumerate_next ?_ (F.args_enumerate_next_1 _))))
    show wpAny _ _ (field (.ref e) 2 >>= _) _ _ _
    refine wpAny_bind (wpAny_field he rfl (x := .ref it) rfl ?_)
    refine wpAny_bind (wpAny_nextOf_tuple_end (I.ok.hd hc) hit pT (by simp; omega) fun h' x he' hx' => ?_)
    obtain ⟨o, ho, hc'⟩ := hx'
    refine wpAny_bind (wpAny_isInstance (T := "StopIteration") (b := true) ⟨o, ho, hc'⟩ isSubtype_stop ?_)
    exact wpAny_pure ⟨rfl, I.turned (t' := s.toks) (fun b o hb q => he' b o hb q) f0 f1 f3 f4 f5⟩
  self := fun A i s Q E st h => let ⟨⟨_, he⟩, _⟩ := st; wpAny_pyIter_enum he h
theorem meets_enumerate_newT (l : Addr) (items : Array Value) :
    Meets (Builtin.«enumerate.__new__» ⟨[.type "enumerate", .ref l], []⟩) (fun _ R s => s.heap.IsTuple l items ∧
      R (.ok (.ret (.ref (s.heap.push { cls := .type "tuple_iterator", data := .fields #[.ref l, .int 0 0] }).objs.size)))
        { s with heap := (s.heap.push { cls := .type "tuple_iterator", data := .fields #[.ref l, .int 0 0] }).push { cls := .type "enumerate", data := .fields #[.none, .bool false, .ref s.heap.objs.size, rawInt 0, .none, .none] } }) :=
  .of_wp fun prog w A R s h => by
    obtain ⟨hp, g, d, tk, os⟩ := s; obtain ⟨hl, h⟩ := h
    have hsub := sub_enumerate
    obtain ⟨⟨oc, od, odt, osl⟩, h1, h2, n, h3⟩ := id hl
    have h2 : oc = .type "tuple" := h2
    have h3 : odt = .seq items n := h3
    subst h2 h3
    have hL : Heap.IsTuple (Shared.heap ⟨hp, g, d, tk, os⟩) l items := hl
    wp_walk using AutoSeq1.wpAny_loadPart' h1
    refine wpAny_stack_any fun st => wpAny_pure ?_
    split
    · rename_i c _ _ _ _ _
      cases (c == Value.type "enumerate")
      · wp_walk using AutoSeq1.wpAny_loadPart' h1, wpAny_pyIter_tuple hL
        exact ⟨_, rfl, h⟩
      · wp_walk using AutoSeq1.wpAny_loadPart' h1, wpAny_pyIter_tuple hL
        exact ⟨_, rfl, h⟩
    · wp_walk using AutoSeq1.wpAny_loadPart' h1, wpAny_pyIter_tuple hL
      exact ⟨_, rfl, h⟩
theorem call_enumerate_tuple {prog : Program} {w : World} {A : Around} {E : Value → Shared → Prop} {s : Shared} {l : Addr} {items : Array Value} {Q : Value → Shared → Prop} (hL : s.heap.IsTuple l items)
    (h : ∀ h', IsEnum h' (s.heap.objs.size + 1) s.heap.objs.size 0 .none → h'.IsTupleIter s.heap.objs.size l 0 → h'.objs.size = s.heap.objs.size + 2 →
      (∀ b o, s.heap.get? b = some o → h'.get? b = some o) → Q (.ref (s.heap.objs.size + 1)) { s with heap := h' }) :
    wpAny (model prog w) A (call (.type "enumerate") [.ref l]) Q E s := by
  refine callType_new F.called_enumerate (by decide) (F.typeCall_enumerate_1 _) (F.newCall_enumerate_1 _) (fun obj => F.args_object_init_2 obj _) F.entry_enumerate_new
    (meets_enumerate_newT l items) ⟨hL, ?_⟩
  have hz : (s.heap.push { cls := .type "tuple_iterator", data := .fields #[.ref l, .int 0 0] }).objs.size = s.heap.objs.size + 1 := Heap.size_push ..
  show _ ∧ _
  rw [hz]
  have he : IsEnum ((s.heap.push { cls := .type "tuple_iterator", data := .fields #[.ref l, .int 0 0] }).push
      { cls := .type "enumerate", data := .fields #[.none, .bool false, .ref s.heap.objs.size, rawInt 0, .none, .none] }) (s.heap.objs.size + 1) s.heap.objs.size 0 .none := by
    have := Heap.get?_push_size (s.heap.push { cls := .type "tuple_iterator", data := .fields #[.ref l, .int 0 0] })
      (o := { cls := .type "enumerate", data := .fields #[.none, .bool false, .ref s.heap.objs.size, rawInt 0, .none, .none] }) rfl
    rw [hz] at this; exact this
  refine ⟨⟨_, he, rfl⟩, h _ he ⟨_, Heap.get?_push_of_some _ (Heap.get?_push_size _ rfl), rfl, rfl⟩ (by rw [Heap.size_push, hz]) fun b o x => Heap.get?_push_of_some _ (Heap.get?_push_of_some _ x)⟩
def iEnumT (K : PySem.W.Frag) (ta : TA) : TI := fun σ H R => ta σ H fun vs H1 => ∃ a xs, vs = [.ref a] ∧ SqT K H1 a xs ∧ R (Iet K a) H1
theorem pi_enumT {X : Cx} {e : Expr} {ta : TA} {p pos tpos : Pos} {elts : List Expr} {kk : Nat} (hg : Gl X "enumerate") (hm : X.mg "enumerate" = none) (ha : PA X [e] ta) (hs : starEach [e] X.env = [(false, eval e X.env)] := by rfl) :
    PI X (.Tuple elts kk tpos) (.Call (.Name "enumerate" p) [e] [] pos) (iEnumT X.K ta) := by
  refine ⟨fun pins s σ H R I h => ?_⟩
  refine Call_ (ld_blt I hg hm boot_enumerate (PyProof.Rows.callWith_type1 (thn (ha.run pos pins s σ H _ I h) fun us s1 ⟨vs, H1, I1, r1, q1⟩ => ?_) hs rfl))
  obtain ⟨a, xs, ex, hq, q⟩ := q1
  subst ex
  cases r1 with
  | cons r rr =>
    cases rr
    cases r
    obtain ⟨its, rv, p', hz⟩ := I1.tuple hq
    refine call_enumerate_tuple (show s1.heap.IsTuple a its.toArray from p') fun h' he hit hsz hk => wpAny_pyIter_enum he ?_
    have I2 : Inv X pins σ H1 { s1 with heap := h' } := I1.kept (t' := s1.toks) hk
    refine ⟨s1.heap.objs.size + 1, [s1.heap.objs.size + 1, s1.heap.objs.size], _, _, H1, rfl, I2, turn_enumT a (s1.heap.objs.size + 1) s1.heap.objs.size, ⟨⟨.none, he⟩, hit, Nat.succ_ne_self _⟩, fun b hb => ?_, q⟩
    have e' : b = s1.heap.objs.size + 1 ∨ b = s1.heap.objs.size := by simpa using hb
    have hle : s1.heap.objs.size ≤ b := by
      rcases e' with z | z
      · rw [z]; exact Nat.le_add_right _ _
      · rw [z]; exact Nat.le_refl _
    exact I1.fpOk hle (I1.hok.fresh hle)
end ZE
set_option Elab.async false
set_option linter.all false
set_option maxRecDepth 100000
set_option maxHeartbeats 4000000
/-! DL14: enumerate. -/
namespace DL
open PySem L2
open ZT (PT)
def enumFrom (i : Nat) : List PD → List PD
  | [] => []
  | d :: ds => .tuple [.int (i : Int), d] :: enumFrom (i + 1) ds
def enumP (ds : List PD) : List PD := enumFrom 0 ds
theorem enumFrom_get : ∀ {ds : List PD} {j i : Nat} {d : PD}, (enumFrom j ds)[i]? = some d → ∃ e, ds[i]? = some e ∧ d = .tuple [.int ((j + i : Nat) : Int), e]
  | [], _, _, _, h => by simp [enumFrom] at h
  | e :: es, j, 0, d, h => by
    simp only [enumFrom, List.getElem?_cons_zero] at h
    cases h
    exact ⟨e, rfl, rfl⟩
  | e :: es, j, i + 1, d, h => by
    simp only [enumFrom, List.getElem?_cons_succ] at h
    obtain ⟨e', h1, h2⟩ := enumFrom_get h
    refine ⟨e', h1, ?_⟩
    rw [h2, Nat.add_right_comm j 1 i]
    rfl
theorem enumFrom_len : ∀ (j : Nat) (ds : List PD), (enumFrom j ds).length = ds.length
  | _, [] => rfl
  | j, d :: ds => by
    show (enumFrom (j + 1) ds).length + 1 = ds.length + 1
    rw [enumFrom_len]
theorem enumP_get {ds : List PD} {i : Nat} {d : PD} (h : (enumP ds)[i]? = some d) : ∃ e, ds[i]? = some e ∧ d = .tuple [.int (i : Int), e] := by
  obtain ⟨e, h1, h2⟩ := enumFrom_get h
  rw [Nat.zero_add] at h2
  exact ⟨e, h1, h2⟩
theorem Walks.enumL {K : Fg} {G : Hp} {a : Addr} {vs : List V} {ds : List PD} (h : G a = some (.lst vs)) (r : DRs K G vs ds) : Walks K false (Ite K a) G (enumP ds) where
  go := fun i H d hs e => by
    obtain ⟨e', h1, _⟩ := enumP_get e
    obtain ⟨v, h2, _⟩ := r.get h1
    exact ⟨vs, v, subL hs h, h2⟩
  yld := fun i w G' H B x H' d o hs e y => by
    obtain ⟨e', h1, h2⟩ := enumP_get e
    obtain ⟨v, h3, h4⟩ := r.get h1
    obtain ⟨T, x', e1, hT, e2, q⟩ := y
    have h5 := q vs (subL o.sub (hs _ _ h))
    rw [h3] at h5
    cases h5
    subst e1 e2 h2
    refine ⟨upd G' T (.tup [.int (i : Int), v]), Step.new o.sub hT, o.new hT, .inr ⟨T, _, _, rfl, rfl, SqT.of upd_same, .cons (.int _) (.cons (h4.mono (Sub.trans hs (sub_upd (o.free hT)))) .nil)⟩⟩
  stop := fun i H hs e => ⟨vs, subL hs h, by rw [r.length]; unfold enumP at e; rw [enumFrom_len] at e; exact e⟩
theorem Walks.enumT {K : Fg} {G : Hp} {a : Addr} {vs : List V} {ds : List PD} (h : PT K G a vs) (r : DRs K G vs ds) : Walks K false (ZE.Iet K a) G (enumP ds) where
  go := fun i H d hs e => by
    obtain ⟨e', h1, _⟩ := enumP_get e
    obtain ⟨v, h2, _⟩ := r.get h1
    exact ⟨vs, v, subT hs h, h2⟩
  yld := fun i w G' H B x H' d o hs e y => by
    obtain ⟨e', h1, h2⟩ := enumP_get e
    obtain ⟨v, h3, h4⟩ := r.get h1
    obtain ⟨T, x', e1, hT, e2, q⟩ := y
    have h5 := q vs (subT o.sub (sbPT hs h))
    rw [h3] at h5
    cases h5
    subst e1 e2 h2
    refine ⟨upd G' T (.tup [.int (i : Int), v]), Step.new o.sub hT, o.new hT, .inr ⟨T, _, _, rfl, rfl, SqT.of upd_same, .cons (.int _) (.cons (h4.mono (Sub.trans hs (sub_upd (o.free hT)))) .nil)⟩⟩
  stop := fun i H hs e => ⟨vs, subT hs h, by rw [r.length]; unfold enumP at e; rw [enumFrom_len] at e; exact e⟩
def mEnum (m : EnvM → Bag → Res PD) : EnvM → Bag → Res (List PD) := fun env B => (m env B).bind fun d B1 => match d with
  | .list ds => .ok (enumP ds) B1
  | .tuple ds => .ok (enumP ds) B1
  | _ => .bad
theorem wi_enum {X : Cx} {W : WX} (K : Fg) {e : Expr} {t : TE} {m : EnvM → Bag → Res PD} {p pos tpos : Pos} {elts : List Expr} {kk : Nat} (hm : X.mg "enumerate" = none) (h : ED X W e t m) (hg : Gl X "enumerate" := by rfl) (hs : starEach [e] X.env = [(false, eval e X.env)] := by rfl) (hK : X.K = K := by rfl) :
    WI X W false (.Tuple elts kk tpos) (.Call (.Name "enumerate" p) [e] [] pos) (fun σ H R => iEnum K (tCons t tNil) σ H R ∨ ZE.iEnumT K (tCons t tNil) σ H R) (mEnum m) := by
  subst hK
  refine ⟨pi_or (pi_enum hg hm (pa_cons h.pe pa_nil hs) hs) (ZE.pi_enumT hg hm (pa_cons h.pe pa_nil hs) hs), fun w G0 H0 σ env G H B Q R hp => ?_⟩
  unfold mEnum at hp
  cases e : m env B with
  | ok d B1 =>
    rw [e] at hp
    have mk : ∀ Q1 : VK, (∀ v G' H', Step w G H G' H' → Ok w G' H' B1 → DR X.K G' v d → Q1 v H') → PostE X.K X.mg w G H (m env B) Q1 (fun c d H' => W c d σ H') := fun Q1 k => by
      rw [e]
      exact k
    cases d with
    | list ds =>
      left
      refine h.sem w G0 H0 σ env G H B _ R (mk _ fun v G' H' s o dv => ?_)
      cases dv with
      | lst hx r => exact ⟨_, _, rfl, subL o.sub hx, hp _ G' H' s o (Walks.enumL hx r)⟩
    | tuple ds =>
      right
      refine h.sem w G0 H0 σ env G H B _ R (mk _ fun v G' H' s o dv => ?_)
      cases dv with
      | tup hx r => exact ⟨_, _, rfl, subT o.sub hx, hp _ G' H' s o (Walks.enumT hx r)⟩
    | _ => exact (show False from hp).elim
  | exc c as B1 =>
    rw [e] at hp
    left
    refine h.sem w G0 H0 σ env G H B _ R ?_
    rw [e]
    exact hp
  | bad => rw [e] at hp; exact hp.elim
end DL
set_option Elab.async false
set_option linter.all false
set_option maxRecDepth 100000
set_option maxHeartbeats 4000000
/-! DL15: an expression whose value a slot takes over: data, or a new list or dict of one's own. -/
namespace DL
open PySem L2
open ZT (PT)
def PostM (K : Fg) (mg : Str → Option Value) (w : Wd) (G H : Hp) (r : Res SV) (Q : VK) (E : XK) : Prop := match r with
  | .ok sv B' => ∀ (v : V) (G' H' : Hp), Step w G H G' H' → Ok w G' H' B' → SR K w H G' H' v sv → Q v H'
  | .exc c as B' => ExcP K mg w G H c as B' E
  | .bad => False
structure MD (X : Cx) (W : WX) (e : Expr) (t : TE) (m : EnvM → Bag → Res SV) : Prop where
  pe : PE X e t
  sem : ∀ (w : Wd) (G0 H0 : Hp) (σ : L2.St) (env : EnvM) (G H : Hp) (B : Bag) (Q : VK), Rel X.K w G0 H0 σ env G H B →
    PostM X.K X.mg w G H (m env B) Q (fun c d H' => W c d σ H') → t σ H Q
theorem PostS.bindM {K : Fg} {mg : Str → Option Value} {w : Wd} {G0 H0 G H Gs : Hp} {r : Res SV} {f : SV → Bag → SRes} {Q1 : VK} {D : Ends} {W : WX} {σ : L2.St} {env : EnvM} {B0 : Bag} (R : Rel K w G0 H0 σ env G H B0) (hs : Sub Gs G)
    (h : PostS K mg w G0 H0 Gs W D (r.s env f)) (k : ∀ a B' v G' H', Step w G H G' H' → Ok w G' H' B' → SR K w H G' H' v a → PostS K mg w G0 H0 Gs W D (f a B') → Q1 v H') : PostM K mg w G H r Q1 (fun c d H' => W c d σ H') := by
  cases r with
  | ok a B => exact fun v G2 H2 s2 o d => k a B v G2 H2 s2 o d h
  | exc c as B => exact fun cls dd fs G' H' m s o d f => h σ cls dd fs G' H' m (R.step s o) (Sub.trans hs s.exG) d f
  | bad => exact h
theorem PostM.bind {β α : Type} {K : Fg} {mg : Str → Option Value} {w : Wd} {G H : Hp} {Ra : Hp → β → α → Prop} {r : Res α} {f : α → Bag → Res SV} {Q : VK} {Q1 : β → Hp → Prop} {E : XK}
    (h : PostM K mg w G H (r.bind f) Q E) (k : ∀ a B' v G' H', Step w G H G' H' → Ok w G' H' B' → Ra G' v a → PostM K mg w G H (f a B') Q E → Q1 v H') : PostR K mg w G H Ra r Q1 E := by
  cases r with
  | ok a B => exact fun v G2 H2 s2 o d => k a B v G2 H2 s2 o d h
  | exc c as B => exact h
  | bad => exact h
theorem Rel.setSV {K : Fg} {w : Wd} {G0 H0 : Hp} {σ : L2.St} {env : EnvM} {G H G1 H1 : Hp} {B B1 : Bag} {v : V} {sv : SV} (R : Rel K w G0 H0 σ env G H B) (s : Step w G H G1 H1) (o : Ok w G1 H1 B1) (i : Nat) (h : SR K w H G1 H1 v sv) :
    Rel K w G0 H0 (σ.set i (some v)) (env.set i (some sv)) G1 H1 B1 := by
  cases sv with
  | d x => exact (R.step s o).set i h
  | own xs =>
    obtain ⟨p, vs, rfl, h1, h2, h3, h4, h5⟩ := h
    exact R.setOwn s o i h2 h4 h1 h3 h5
  | ownD ds =>
    obtain ⟨p, vs, rfl, h1, h2, h3, h4, h5⟩ := h
    exact R.setOwnD s o i h2 h4 h1 h3 h5
  | bag => exact (R.step s o).put i (fun sv e => by cases e; exact ⟨v, rfl, h⟩) fun sv e o => by cases e; cases o
section
variable {X : Cx} {W : WX}
theorem md_d {t : TE} {e : Expr} {m : EnvM → Bag → Res PD} (h : ED X W e t m) : MD X W e t (mG m) :=
  ⟨h.pe, fun w G0 H0 σ env G H B Q R hp => h.sem w G0 H0 σ env G H B _ R (PostM.bind hp fun d B1 v G1 H1 s1 o1 d1 h1 => h1 v G1 H1 s1 o1 d1)⟩
/-- [..] as one's own -/
def mML (m : EnvM → Bag → Res (List SV)) : EnvM → Bag → Res SV := fun env B => (m env B).bind fun ss B1 => match unD ss with
  | some ds => if ds.length ≤ sizeLine then .ok (.own ds) B1 else .bad
  | none => .bad
theorem md_lst {es : List Expr} {t : TA} {m : EnvM → Bag → Res (List SV)} {pl : Pos} (ha : AD X W es t m) : MD X W (.List es pl) (tLst t) (mML m) := by
  refine ⟨pe_lst ha.pe, fun w G0 H0 σ env G H B Q R h => ?_⟩
  refine ha.sem w G0 H0 σ env G H B _ R (PostM.bind h fun ss B1 vs G1 H1 s1 o1 d1 h1 => ?_)
  cases e : unD ss with
  | none => simp only [e] at h1; exact h1.elim
  | some ds =>
    simp only [e] at h1
    have r := d1.un e
    by_cases hl : ds.length ≤ sizeLine
    · rw [if_pos hl] at h1
      refine ⟨by rw [r.length]; exact hl, fun p hp => ?_⟩
      have hp0 : NN (H p) := s1.back0 (.inl hp)
      exact h1 _ G1 _ (s1.trans (Step.newH hp)) (o1.newH hp) ⟨p, vs, rfl, o1.free hp, hp0, o1.nb hp, upd_same, r⟩
    · rw [if_neg hl] at h1; exact h1.elim
/-- {} as one's own -/
def mMD : EnvM → Bag → Res SV := fun _ B => .ok (.ownD []) B
theorem md_dnew {p : Pos} : MD X W (.Dict [] [] p) tDNewK mMD :=
  ⟨pe_dnewK, fun w G0 H0 σ env G H B Q R h p hp => h _ G _ (Step.newH hp) (R.ok.newH hp) ⟨p, [], rfl, R.ok.free hp, .inl hp, R.ok.nb hp, upd_same, .nil⟩⟩
/-- list(e) as one's own -/
def mMList (m : EnvM → Bag → Res (List SV)) : EnvM → Bag → Res SV := fun env B => (m env B).bind fun ss B1 => match unD ss with
  | some [.list ds] => .ok (.own ds) B1
  | some [.tuple ds] => .ok (.own ds) B1
  | _ => .bad
theorem md_list (K : Fg) {e : Expr} {p pos : Pos} {t : TA} {m : EnvM → Bag → Res (List SV)} (hm : X.mg "list" = none) (ha : AD X W [e] t m) (hg : Gl X "list" := by rfl)
    (he : starEach [e] X.env = (false, eval e X.env) :: starEach [] X.env := by rfl) (hpl : (backTo pos (starEach [] X.env)).any (·.1) = false := by rfl) (hK : X.K = K := by rfl) : MD X W (.Call (.Name "list" p) [e] [] pos) (tCB (rListK K) t) (mMList m) := by
  subst hK
  refine ⟨pe_callTy call_list_of hg hm (by decide +kernel) ha.pe (by decide) (by decide) he hpl, fun w G0 H0 σ env G H B Q R h => ?_⟩
  refine ha.sem w G0 H0 σ env G H B _ R (PostM.bind h fun ss B1 vs G1 H1 s1 o1 d1 h1 => ?_)
  have fin : ∀ (p0 : Addr) (ys : List V) (ds : List PD), DRs X.K G1 ys ds → PostM X.K X.mg w G H (.ok (.own ds) B1) Q (fun c d H' => W c d σ H') → ∀ l, H1 l = none → Q (.ref l) (upd H1 l (.lst ys)) := fun p0 ys ds r h1 l hp => by
    have hp0 : NN (H l) := s1.back0 (.inl hp)
    exact h1 _ G1 _ (s1.trans (Step.newH hp)) (o1.newH hp) ⟨l, ys, rfl, o1.free hp, hp0, o1.nb hp, upd_same, r⟩
  split at h1
  · rename_i ds e1
    obtain ⟨v, rfl, d⟩ := (d1.un e1).one
    cases d with
    | lst hx q => exact ⟨_, _, rfl, .inl (subL o1.sub hx), fin 0 _ _ q h1⟩
  · rename_i ds e1
    obtain ⟨v, rfl, d⟩ := (d1.un e1).one
    cases d with
    | tup hx q => exact ⟨_, _, rfl, .inr (subT o1.sub hx), fin 0 _ _ q h1⟩
  · exact h1.elim
/-- x = e -/
def mSetM (i : Nat) (m : EnvM → Bag → Res SV) : EnvM → Bag → SRes := fun env B => (m env B).s env fun sv B1 => .nx (env.set i (some sv)) B1
theorem sd_setM (i : Nat) {x : Str} {e : Expr} {t : TE} {m : EnvM → Bag → Res SV} {pos pos' : Pos} (hN : X.N.Nodup) (ha : MD X W e t m) (hi : X.N[i]? = some x := by rfl) (hx : Loc X.env.scope x := by first | exact Or.inl rfl | exact Or.inr rfl)
    (hs : swapsWith e (some (.Name x pos')) pos.line X.env = pure false := by rfl) (hf : X.fn x = true ∨ X.env.scope.names.lookup x = some .local := by first | exact .inl rfl | exact .inr rfl) :
    SD X W (.Assign [.Name x pos'] e pos) (tAsg t (gName i)) (mSetM i m) := by
  refine ⟨ps_set hN hi hx ha.pe hs hf, fun w G0 H0 σ env G H B D R h => ?_⟩
  refine ha.sem w G0 H0 σ env G H B _ R (PostS.bindM R (Sub.refl _) h fun sv B1 v G1 H1 s1 o1 d1 h1 => ?_)
  exact h1 _ G1 H1 (R.setSV s1 o1 i d1) s1.exG
/-- x, y = a, b -/
def mParM (i j : Nat) (m m2 : EnvM → Bag → Res SV) : EnvM → Bag → SRes := fun env B => (m env B).s env fun sv B1 => (m2 env B1).s env fun sv2 B2 => .nx ((env.set i (some sv)).set j (some sv2)) B2
theorem sd_parM (i j : Nat) {x y : Str} {a b : Expr} {t t2 : TE} {m m2 : EnvM → Bag → Res SV} {px py pt pos : Pos} {kt k2 pt2} (hc : X.calm = true) (hN : X.N.Nodup) (ha : MD X W a t m) (hb : MD X W b t2 m2) (hi : X.N[i]? = some x := by rfl) (hj : X.N[j]? = some y := by rfl) (hij : i ≠ j := by decide)
    (hx : X.env.scope.names.lookup x = some .local := by rfl) (hy : X.env.scope.names.lookup y = some .local := by rfl)
    (hs1 : starEach [a, b] X.env = (false, eval a X.env) :: starEach [b] X.env := by rfl) (hs2 : starEach [b] X.env = (false, eval b X.env) :: starEach [] X.env := by rfl)
    (hw : swappedStores [.Tuple [.Name x px, .Name y py] kt pt] (.Tuple [a, b] k2 pt2) X.env = pure (some [x, y]) := by rfl)
    (hs : swapsWithSole [.Tuple [.Name x px, .Name y py] kt pt] (.Tuple [a, b] k2 pt2) pos.line X.env = pure false := by rfl) :
    SD X W (.Assign [.Tuple [.Name x px, .Name y py] kt pt] (.Tuple [a, b] k2 pt2) pos) (tPar i j (tCons t (tCons t2 tNil))) (mParM i j m m2) := by
  refine ⟨ps_par hc hN hi hj hij hx hy (pa_cons ha.pe (pa_cons hb.pe pa_nil hs2) hs1) hw hs, fun w G0 H0 σ env G H B D R h => ?_⟩
  refine ha.sem w G0 H0 σ env G H B _ R (PostS.bindM R (Sub.refl _) h fun sv B1 v G1 H1 s1 o1 d1 h1 => ?_)
  have R1 := R.step s1 o1
  refine hb.sem w G0 H0 σ env G1 H1 B1 _ R1 (PostS.bindM R1 s1.exG h1 fun sv2 B2 v2 G2 H2 s2 o2 d2 h2 => ?_)
  exact ⟨_, _, rfl, h2 _ G2 H2 ((R.setSV s1 o1 i d1).setSV s2 o2 j d2) (Sub.trans s1.exG s2.exG)⟩
end
end DL
set_option Elab.async false
set_option linter.all false
set_option maxRecDepth 100000
set_option maxHeartbeats 4000000
/-! DL16: x.append(y.pop(e)), x and y lists of one's own. -/
namespace DL
open PySem L2
open ZT (PT)
def popP (ys : List PD) : PD → Option (PD × List PD)
  | .int i => if 0 ≤ i ∧ i < 2 ^ 63 then (ys[i.toNat]?).map fun y => (y, ys.eraseIdx i.toNat) else none
  | _ => none
theorem popP_of {ys ys' : List PD} {d y : PD} (h : popP ys d = some (y, ys')) : ∃ i : Int, d = .int i ∧ 0 ≤ i ∧ i < 2 ^ 63 ∧ ys[i.toNat]? = some y ∧ ys' = ys.eraseIdx i.toNat := by
  unfold popP at h
  split at h
  · rename_i i
    split at h
    · rename_i q
      cases e : ys[i.toNat]? with
      | none => rw [e] at h; cases h
      | some z =>
        rw [e] at h
        cases h
        exact ⟨i, rfl, q.1, q.2, e, rfl⟩
    · cases h
  · cases h
theorem DRs.erase {K : Fg} {G : Hp} : ∀ {vs : List V} {ds : List PD} (i : Nat), DRs K G vs ds → DRs K G (vs.eraseIdx i) (ds.eraseIdx i)
  | _, _, _, .nil => .nil
  | _, _, 0, .cons _ r => r
  | _, _, i + 1, .cons h r => .cons h (DRs.erase i r)
section
variable {X : Cx} {W : WX}
def mAppPop (i j : Nat) (m : EnvM → Bag → Res PD) : EnvM → Bag → SRes := fun env B => match env[i]?, env[j]? with
  | some (some (.own xs)), some (some (.own ys)) => (m env B).s env fun d B1 => (match popP ys d with
    | some (y, ys') => if xs.length < sizeLine then .nx ((env.set j (some (.own ys'))).set i (some (.own (xs ++ [y])))) B1 else .bad
    | none => .bad)
  | _, _ => .bad
theorem sd_appPop (i j : Nat) {x y : Str} {e : Expr} {t : TE} {m : EnvM → Bag → Res PD} {p1 p2 p3 p4 pc pc2 pos : Pos} (he : ED X W e t m) (hij : i ≠ j) (hN : X.N[i]? = some x) (hN2 : X.N[j]? = some y)
    (hpe : PE X (.Call (.Attribute (.Name x p1) "append" p2) [.Call (.Attribute (.Name y p3) "pop" p4) [e] [] pc2] [] pc) (tBM X.K "list" rAppend (tVar i) (tCons (tBM X.K "list" rPopAt (tVar j) (tCons t tNil)) tNil)))
    (hs : swapsWith (.Call (.Attribute (.Name x p1) "append" p2) [.Call (.Attribute (.Name y p3) "pop" p4) [e] [] pc2] [] pc) none pos.line X.env = pure false := by rfl) :
    SD X W (.Expr (.Call (.Attribute (.Name x p1) "append" p2) [.Call (.Attribute (.Name y p3) "pop" p4) [e] [] pc2] [] pc) pos) (tDrop (tBM X.K "list" rAppend (tVar i) (tCons (tBM X.K "list" rPopAt (tVar j) (tCons t tNil)) tNil))) (mAppPop i j m) := by
  refine ⟨ps_expr hpe hs, fun w G0 H0 σ env G H B D R h => ?_⟩
  unfold mAppPop at h
  split at h
  · rename_i xs ys q q2
    obtain ⟨p, vs, h1, g, h0, nb, hp, r⟩ := own_at R q
    obtain ⟨p', vs', h1', g', h0', nb', hp', r'⟩ := own_at R q2
    refine ⟨_, h1, .inl ⟨rfl, _, SqL.of hp⟩, ?_⟩
    refine ⟨_, h1', .inl ⟨rfl, _, SqL.of hp'⟩, ?_⟩
    refine he.sem w G0 H0 σ env G H B _ R (PostS.bind R (Sub.refl _) h fun d B1 v G1 H1 s1 o1 d1 h2 => ?_)
    have R1 := R.step s1 o1
    cases e1 : popP ys d with
    | none => simp only [e1] at h2; exact h2.elim
    | some z =>
      obtain ⟨y1, ys'⟩ := z
      simp only [e1] at h2
      by_cases hl : xs.length < sizeLine
      · rw [if_pos hl] at h2
        obtain ⟨k, rfl, k0, k1, k2, rfl⟩ := popP_of e1
        have ev : v = .int k := by cases d1; rfl
        subst ev
        have r1 := r'.mono s1.exG
        obtain ⟨u, k3, k4⟩ := r1.get k2
        have hpp := s1.keep p' _ nb'.one (fun _ z => by cases z) hp'
        have klt : k < (vs'.length : Int) := by
          have := (List.getElem?_eq_some_iff.mp k3).1
          omega
        refine ⟨p', vs', k, k.toNat, u, rfl, rfl, hpp, by omega, k1, seqIndex_of k0 klt, k3, ?_⟩
        obtain ⟨_, _, z1, z2, z3, z4, z5, z6⟩ := own_at R1 q2
        rw [h1'] at z1; cases z1
        have R2 := R1.upOwn j q2 h1' hpp (r1.erase k.toNat) z2 z3 z4
        have q3 : (env.set j (some (.own (ys.eraseIdx k.toNat))))[i]? = some (some (.own xs)) := by rw [List.getElem?_set_ne (Ne.symm hij)]; exact q
        obtain ⟨_, vs2, y1', y2, y3, y4, y5, y6⟩ := own_at R2 q3
        rw [h1] at y1'; cases y1'
        refine ⟨p, vs2, u, rfl, rfl, y5, by rw [y6.length]; exact hl, ?_⟩
        exact h2 σ G1 _ (R2.upOwn i q3 h1 y5 (y6.append (.cons k4 .nil)) y2 y3 y4) s1.exG
      · rw [if_neg hl] at h2; exact h2.elim
  · exact h.elim
end
end DL
set_option Elab.async false
set_option linter.all false
set_option maxRecDepth 100000
set_option maxHeartbeats 4000000
/-! ZD: {k: v for a in .. for b in ..} (written by mkzd.py along the kit's proof for a list with two fors). -/
namespace ZD
open PySem PySem.Spec PyProof.Rows L2
theorem compTurn2d_out (kx vx t0 i0 t1 i1 : Expr) (ifs0 ifs1 : List Expr) (scope : Scope) (pos : Pos) (it : Value) (D : Addr) (env : Env) :
    compTurn (.DictComp kx vx [⟨t0, i0, ifs0, 0⟩, ⟨t1, i1, ifs1, 0⟩] scope pos) 0 it (.ref D) env = (do
      standAt i0.pos
      match ← pyNext it with
      | none => pure (.done .next)
      | some v =>
        letOwnedTupleGo t0 it v
        assign t0 env v
        let mut ok := true
        for c in ifs0 do
          if ok then ok ← isTrue c env (eval c env)
        if ok then
          let x ← eval i1 env
          standAt i1.pos
          let x ← foldedSetIterable i1 env x
          let _ ← runOwn (.compStart (.DictComp kx vx [⟨t0, i0, ifs0, 0⟩, ⟨t1, i1, ifs1, 0⟩] scope pos) 1 (← holding [x] (pyIter x)) (.ref D) env) env
        again (.compLoop (.DictComp kx vx [⟨t0, i0, ifs0, 0⟩, ⟨t1, i1, ifs1, 0⟩] scope pos) 0 it (.ref D) env)) := by rfl
theorem compTurn2d_in (kx vx t0 i0 t1 i1 : Expr) (ifs0 ifs1 : List Expr) (scope : Scope) (pos : Pos) (it : Value) (D : Addr) (env : Env) :
    compTurn (.DictComp kx vx [⟨t0, i0, ifs0, 0⟩, ⟨t1, i1, ifs1, 0⟩] scope pos) 1 it (.ref D) env = (do
      standAt i1.pos
      match ← pyNext it with
      | none => pure (.done .next)
      | some v =>
        letOwnedTupleGo t1 it v
        assign t1 env v
        let mut ok := true
        for c in ifs1 do
          if ok then ok ← isTrue c env (eval c env)
        if ok then
          (do
            let kv ← eval kx env
            let vv ← holding [kv] (eval vx env)
            standAt { kx.pos with endLine := vx.pos.endLine, endCol := vx.pos.endCol }
            holding [kv, vv] (dictSet D kv vv))
        again (.compLoop (.DictComp kx vx [⟨t0, i0, ifs0, 0⟩, ⟨t1, i1, ifs1, 0⟩] scope pos) 1 it (.ref D) env)) := by rfl

section
variable {prog : Program} {w : World} {A : Around} {R : Result → Shared → Prop} {s : Shared} {kx vx t0 i0 t1 i1 : Expr} {ifs0 ifs1 : List Expr} {scope : Scope} {pos : Pos} {it : Value} {D : Addr} {env : Env}
/-- the loop of the first clause -/
theorem compLoop2d_out (hs : ∀ x, foldedSetIterable i1 env x = pure x) (I : Nat → Shared → Prop)
    (turn : ∀ n s, I n s → wpAny (model prog w) A (pyNext it) (fun r s₁ => match r with
      | none => R (.ok .next) s₁
      | some v => wpAny (model prog w) A (letOwnedTupleGo t0 it v) (fun _ s₁' => wpAny (model prog w) A (assign t0 env v) (fun _ s₂ =>
          wpAny (model prog w) A (forIn ifs0 true fun c r => if r = true then do let ok ← isTrue c env (eval c env); pure (ForInStep.yield ok) else pure (ForInStep.yield r)) (fun ok s₃ =>
            if ok = true then wpAny (model prog w) A (eval i1 env) (fun x s₄ => wpAny (model prog w) A (pyIter x) (fun it1 s₅ =>
              codeAny (model prog w) A (.compStart (.DictComp kx vx [⟨t0, i0, ifs0, 0⟩, ⟨t1, i1, ifs1, 0⟩] scope pos) 1 it1 (.ref D) env) (fun r s' => match r with
                | .ok _ => ∃ m, m < n ∧ I m s'
                | .error _ => False) s₅) (notedBy (model prog w) A env fun e s' => R (.error e) s') s₄) (notedBy (model prog w) A env fun e s' => R (.error e) s') s₃
            else ∃ m, m < n ∧ I m s₃) (notedBy (model prog w) A env fun e s' => R (.error e) s') s₂) (notedBy (model prog w) A env fun e s' => R (.error e) s') s₁') (notedBy (model prog w) A env fun e s' => R (.error e) s') s₁) (notedBy (model prog w) A env fun e s' => R (.error e) s') s)
    (n : Nat) (h : I n s) :
    codeAny (model prog w) A (.compLoop (.DictComp kx vx [⟨t0, i0, ifs0, 0⟩, ⟨t1, i1, ifs1, 0⟩] scope pos) 0 it (.ref D) env) R s := by
  refine codeAny_loop rfl I (fun n s hI => ?_) n h
  show wpAny _ A ((compTurn (.DictComp kx vx [⟨t0, i0, ifs0, 0⟩, ⟨t1, i1, ifs1, 0⟩] scope pos) 0 it (.ref D) env).onRaise (fun x => do noteFrame x env; theTreesLotGoes x)) _ _ s
  refine wpAny_noted ?_
  rw [compTurn2d_out]
  refine wpAny_bind (wpAny_standAt (wpAny_bind (wpAny_mono (turn n s hI) (fun r s₁ h₁ => ?_) fun _ _ h' => h')))
  cases r with
  | none => exact wpAny_pure h₁
  | some v =>
    refine wpAny_bind (wpAny_mono h₁ (fun _ s₁' h₁' => ?_) fun _ _ h' => h')
    refine wpAny_bind (wpAny_mono h₁' (fun _ s₂ h₂ => wpAny_bind (wpAny_mono h₂ (fun ok s₃ h₃ => ?_) fun _ _ h' => h')) fun _ _ h' => h')
    cases ok with
    | false => exact wpAny_pure ⟨rfl, h₃⟩
    | true =>
      refine wpAny_bind (wpAny_mono h₃ (fun x s₄ h₄ => ?_) fun _ _ h' => h')
      refine wpAny_bind (wpAny_standAt (wpAny_bind (wpAny_of_eq (hs x) (wpAny_bind (wpAny_holding (wpAny_mono h₄ (fun it1 s₅ h₅ => ?_) fun _ _ h' => h'))))))
      refine wpAny_bind (wpAny_runOwn ?_)
      rw [Around.mark_none]
      refine codeAny_mono h₅ fun r s' hr => ?_
      cases r with
      | ok f =>
        first
          | exact wpAny_pure ⟨rfl, hr⟩
          | exact wpAny_bind (wpAny_pure (wpAny_pure ⟨rfl, hr⟩))
      | error e => exact hr.elim
/-- the loop of the second -/
theorem compLoop2d_in (I : Nat → Shared → Prop)
    (turn : ∀ n s, I n s → wpAny (model prog w) A (pyNext it) (fun r s₁ => match r with
      | none => R (.ok .next) s₁
      | some v => wpAny (model prog w) A (letOwnedTupleGo t1 it v) (fun _ s₁' => wpAny (model prog w) A (assign t1 env v) (fun _ s₂ =>
          wpAny (model prog w) A (forIn ifs1 true fun c r => if r = true then do let ok ← isTrue c env (eval c env); pure (ForInStep.yield ok) else pure (ForInStep.yield r)) (fun ok s₃ =>
            if ok = true then wpAny (model prog w) A (eval kx env) (fun kv s₄ => wpAny (model prog w) A (eval vx env) (fun vv s₅ =>
              wpAny (model prog w) A (dictSet D kv vv) (fun _ s₆ => ∃ m, m < n ∧ I m s₆) (notedBy (model prog w) A env fun e s' => R (.error e) s') s₅) (notedBy (model prog w) A env fun e s' => R (.error e) s') s₄) (notedBy (model prog w) A env fun e s' => R (.error e) s') s₃
            else ∃ m, m < n ∧ I m s₃) (notedBy (model prog w) A env fun e s' => R (.error e) s') s₂) (notedBy (model prog w) A env fun e s' => R (.error e) s') s₁') (notedBy (model prog w) A env fun e s' => R (.error e) s') s₁) (notedBy (model prog w) A env fun e s' => R (.error e) s') s)
    (n : Nat) (h : I n s) :
    codeAny (model prog w) A (.compLoop (.DictComp kx vx [⟨t0, i0, ifs0, 0⟩, ⟨t1, i1, ifs1, 0⟩] scope pos) 1 it (.ref D) env) R s := by
  refine codeAny_loop rfl I (fun n s hI => ?_) n h
  show wpAny _ A ((compTurn (.DictComp kx vx [⟨t0, i0, ifs0, 0⟩, ⟨t1, i1, ifs1, 0⟩] scope pos) 1 it (.ref D) env).onRaise (fun x => do noteFrame x env; theTreesLotGoes x)) _ _ s
  refine wpAny_noted ?_
  rw [compTurn2d_in]
  refine wpAny_bind (wpAny_standAt (wpAny_bind (wpAny_mono (turn n s hI) (fun r s₁ h₁ => ?_) fun _ _ h' => h')))
  cases r with
  | none => exact wpAny_pure h₁
  | some v =>
    refine wpAny_bind (wpAny_mono h₁ (fun _ s₁' h₁' => ?_) fun _ _ h' => h')
    refine wpAny_bind (wpAny_mono h₁' (fun _ s₂ h₂ => wpAny_bind (wpAny_mono h₂ (fun ok s₃ h₃ => ?_) fun _ _ h' => h')) fun _ _ h' => h')
    cases ok with
    | false => exact wpAny_pure ⟨rfl, h₃⟩
    | true =>
      exact wpAny_bind (wpAny_bind (wpAny_mono h₃ (fun kv s₄ h₄ => wpAny_bind (wpAny_holding (wpAny_mono h₄ (fun vv s₅ h₅ => wpAny_bind (wpAny_standAt (wpAny_holding (wpAny_mono h₅ (fun _ s₆ h₆ => wpAny_pure ⟨rfl, h₆⟩) fun _ _ h' => h')))) fun _ _ h' => h'))) fun _ _ h' => h'))
/-- the second clause's start -/
theorem compStart1d_ok (h0 : codeAny (model prog w) A (.compLoop (.DictComp kx vx [⟨t0, i0, ifs0, 0⟩, ⟨t1, i1, ifs1, 0⟩] scope pos) 1 it (.ref D) env) R s)
    (h : wpAny (model prog w) A (pyIter it) (fun it' s' => codeAny (model prog w) A (.compLoop (.DictComp kx vx [⟨t0, i0, ifs0, 0⟩, ⟨t1, i1, ifs1, 0⟩] scope pos) 1 it' (.ref D) env) R s')
      (notedBy (model prog w) A env fun x s' => R (.error x) s') s) :
    codeAny (model prog w) A (.compStart (.DictComp kx vx [⟨t0, i0, ifs0, 0⟩, ⟨t1, i1, ifs1, 0⟩] scope pos) 1 it (.ref D) env) R s := by
  refine codeAny_of_tree ?_
  show wpAny _ _ ((compStart (.DictComp kx vx [⟨t0, i0, ifs0, 0⟩, ⟨t1, i1, ifs1, 0⟩] scope pos) 1 it (.ref D) env).onRaise (fun x => do noteFrame x env; standAt theWindowsPlace)) _ _ s
  refine wpAny_notedAt ?_
  unfold compStart
  show wpAny _ _ (ask >>= _) _ _ s
  refine wpAny_bind (wpAny_askSetting (wpAny_ite ?_))
  split
  · first
      | exact wpAny_bind (wpAny_pure (wpAny_pure (And.intro rfl h0)))
      | exact wpAny_pure (And.intro rfl h0)
  · first
      | exact wpAny_bind (wpAny_rule (wpAny_bind (wpAny_standAt (wpAny_bind (wpAny_mono h (fun it' s' h' => wpAny_pure (And.intro rfl h')) fun _ _ x => x)))))
      | (refine wpAny_bind (wpAny_rule ?_); show wpAny _ _ (standAt i1.pos >>= _) _ _ s; exact wpAny_bind (wpAny_standAt (wpAny_bind (wpAny_mono h (fun it' s' h' => wpAny_pure (And.intro rfl h')) fun _ _ x => x))))
end

section
variable {X : Cx}
/-- [elt for tg in iter if .. for tg1 in iter1 if ..]: behind the first clause's store and tests the second source's own loop, from which Nx is reached. vs: the block's names; vs1: those of the second target -/
def tDc2 (wi : TI) (g : TG) (tt : TT) (wi1 : TI) (g1 : TG) (tt1 : TT) (tk tv : TE) (vs vs1 : List Nat) : TE := fun σ H Q => wi σ H fun J H1 => ∀ D, H1 D = none → ∃ W : Nat → Nat → Hp → Prop, (∃ m, W 0 m (upd H1 D (.dK []))) ∧ ∀ i m H, W i m H →
  (J.stop i H ∧ Q (.ref D) H) ∨ (J.go i H ∧ ∃ Nx : Hp → Prop, (∀ H', Nx H' → ∃ m', m' < m ∧ W (i + 1) m' H') ∧ ∀ x H', J.yld i H x H' → g x (wipe σ vs) H' fun σ2 H2 => wipe σ2 vs = wipe σ vs ∧ tt σ2 H2 fun b H3 =>
    if b = true then wi1 σ2 H3 fun J1 H4 => ∃ W1 : Nat → Nat → Hp → Prop, (∃ m, W1 0 m H4) ∧ ∀ j k H, W1 j k H →
      (J1.stop j H ∧ Nx H) ∨ (J1.go j H ∧ ∃ Nx1 : Hp → Prop, (∀ H', Nx1 H' → ∃ k', k' < k ∧ W1 (j + 1) k' H') ∧ ∀ x H', J1.yld j H x H' → g1 x (wipe σ2 vs1) H' fun σ3 H5 => wipe σ3 vs1 = wipe σ2 vs1 ∧ tt1 σ3 H5 fun b H6 =>
        if b = true then tk σ3 H6 fun y H7 => tv σ3 H7 fun z H8 => ∃ kvs k, y = kV k ∧ H8 D = some (.dK kvs) ∧ kvs.length < sizeLine ∧ Nx1 (upd H8 D (.dK (putK kvs k z))) else Nx1 H6)
    else Nx H3)
theorem dc2_core {pins : List (Addr × Obj)} {s : Shared} {σ : L2.St} {H : Hp} {Q : VK} {kx vx tg iter tg1 iter1 : Expr} {ifs ifs1 : List Expr} {scope : Scope} {own : List (Str × Nat)} {vs1 : List Nat} {pos pos' : Pos} {wi wi1 : TI} {g g1 : TG} {tt tt1 : TT} {tk tv : TE} {use : Option (Value → Sem Unit)} {Qf : Value → Shared → Prop}
    (hc : X.calm = true) (hN : X.N.Nodup) (I : Inv X pins σ H s) (hi : PI X tg iter wi) (ok : BlkOk X.N X.env.scope scope own) (hv : ∀ i ∈ vs1, i ∈ own.map (·.2))
    (hg : ∀ (s : Shared) (H : Hp) (C : Addr) (cl : List (Str × Addr)) (fp : List Addr), PG (X.blk s H scope (compEnvC scope cl C X.env) fp) tg g) (ht : ∀ (s : Shared) (H : Hp) (C : Addr) (cl : List (Str × Addr)) (fp : List Addr), PTs (X.blk s H scope (compEnvC scope cl C X.env) fp) ifs tt)
    (hk : ∀ (s : Shared) (H : Hp) (C : Addr) (cl : List (Str × Addr)) (fp : List Addr), PE (X.blk s H scope (compEnvC scope cl C X.env) fp) kx tk) (he : ∀ (s : Shared) (H : Hp) (C : Addr) (cl : List (Str × Addr)) (fp : List Addr), PE (X.blk s H scope (compEnvC scope cl C X.env) fp) vx tv) (hs : ∀ x, foldedSetIterable iter X.env x = pure x)
    (hi1 : ∀ (s : Shared) (H : Hp) (C : Addr) (cl : List (Str × Addr)) (fp : List Addr), PI (X.blk s H scope (compEnvC scope cl C X.env) fp) tg1 iter1 wi1)
    (hg1 : ∀ (s : Shared) (H : Hp) (C : Addr) (cl : List (Str × Addr)) (fp : List Addr), PG (X.blk s H scope (compEnvC scope cl C X.env) fp) tg1 g1)
    (ht1 : ∀ (s : Shared) (H : Hp) (C : Addr) (cl : List (Str × Addr)) (fp : List Addr), PTs (X.blk s H scope (compEnvC scope cl C X.env) fp) ifs1 tt1)
    (hs1 : ∀ env x, foldedSetIterable iter1 env x = pure x)
    (h : tDc2 wi g tt wi1 g1 tt1 tk tv (own.map (·.2)) vs1 σ H Q)
    (hRR : ∀ D C s' m H', Inv X pins σ H' s' → Q (.ref D) H' → s'.heap.Ns C m → FpOk X pins H' C → compPost (model X.prog X.w) X.A X.xe use Qf (.ref D) C (.ok .next) s') :
    wpAny (model X.prog X.w) X.A (comprehension (.DictComp kx vx [⟨tg, iter, ifs, 0⟩, ⟨tg1, iter1, ifs1, 0⟩] scope pos) scope X.env pos' newDict false (eval iter X.env) use) Qf X.xe s := by
  have hfree : ∀ y ∈ scope.names, y.2 = .free → ∃ c, X.env.cells.lookup y.1 = some c := fun y hy e => by
    rcases ok.free y hy e with k | k
    · exact I.ok.has _ (.inl k)
    · exact I.ok.has _ (.inr k)
  refine wpAny_comprehension_free (use := use) rfl hs (closure_ok hfree) ok.kind (fun y hy e => by rw [ok.uniq y hy, e])
    (thn (hi.run pins s σ H _ I h) fun xv s1 hx => thn hx fun itv s2 h2 => ?_)
  obtain ⟨it, fp, tn, J, H2, e, I2, T, st2, f2, q⟩ := h2
  subst e
  refine wpAny_newObj_type (newEnv_comp ?_)
  generalize hD : s2.heap.objs.size = D
  have hDn : H2 D = none := I2.hok.fresh (Nat.le_of_eq hD)
  obtain ⟨W, ⟨m0, w0⟩, turn⟩ := q D hDn
  -- the new list
  generalize hs3 : ({ s2 with heap := s2.heap.push { cls := .type "dict", data := .dict #[] } } : Shared) = s3
  have I3 : Inv X pins σ (upd H2 D (.dK [])) s3 := by
    rw [← hs3]
    refine I2.laid (t' := s2.toks) (fun b o e => Heap.get?_push_of_some _ e) (Nat.le_of_eq hD) ?_
    rw [← hD]
    exact dk_empty s2.heap I2.big
  have h3 : s3.heap = s2.heap.push { cls := .type "dict", data := .dict #[] } := by rw [← hs3]
  have sz : ∀ b ∈ fp, b < s2.heap.objs.size := fun b hb => by
    obtain ⟨o, e, _⟩ := T.obj _ _ st2 b hb
    exact Heap.lt_size e
  have f3 : ∀ b ∈ fp, FpOk X pins (upd H2 D (.dK [])) b ∧ b < s3.heap.objs.size := fun b hb => by
    have hlt := sz b hb
    refine ⟨⟨?_, (f2 b hb).2⟩, by rw [h3, Heap.size_push]; exact Nat.lt_succ_of_lt hlt⟩
    rw [upd_ne (by rw [← hD]; exact Nat.ne_of_lt hlt)]
    exact (f2 b hb).1
  have st3 : tn 0 s3.heap := T.keep _ _ _ st2 fun b _ o e => by rw [h3]; exact Heap.get?_push_of_some _ e
  have I4 := block_start I3 ok hN f3
  have pg := hg s3 (upd H2 D (.dK [])) s3.heap.objs.size (cellsFrom (s3.heap.objs.size + 1) scope.names (cloFrom X.env.cells scope.names [])) fp
  have pt := ht s3 (upd H2 D (.dK [])) s3.heap.objs.size (cellsFrom (s3.heap.objs.size + 1) scope.names (cloFrom X.env.cells scope.names [])) fp
  have pk := hk s3 (upd H2 D (.dK [])) s3.heap.objs.size (cellsFrom (s3.heap.objs.size + 1) scope.names (cloFrom X.env.cells scope.names [])) fp
  have pe := he s3 (upd H2 D (.dK [])) s3.heap.objs.size (cellsFrom (s3.heap.objs.size + 1) scope.names (cloFrom X.env.cells scope.names [])) fp
  have pi1 := hi1 s3 (upd H2 D (.dK [])) s3.heap.objs.size (cellsFrom (s3.heap.objs.size + 1) scope.names (cloFrom X.env.cells scope.names [])) fp
  have pg1 := hg1 s3 (upd H2 D (.dK [])) s3.heap.objs.size (cellsFrom (s3.heap.objs.size + 1) scope.names (cloFrom X.env.cells scope.names [])) fp
  have pt1 := ht1 s3 (upd H2 D (.dK [])) s3.heap.objs.size (cellsFrom (s3.heap.objs.size + 1) scope.names (cloFrom X.env.cells scope.names [])) fp
  show codeAny _ _ (.compStart (.DictComp kx vx [⟨tg, iter, ifs, 0⟩, ⟨tg1, iter1, ifs1, 0⟩] scope pos) 0 (.ref it) (.ref D) (compEnvC scope (cellsFrom (s3.heap.objs.size + 1) scope.names (cloFrom X.env.cells scope.names [])) s3.heap.objs.size X.env)) (compPost (model X.prog X.w) X.A X.xe use Qf (.ref D) s3.heap.objs.size) { s3 with heap := pushCells (s3.heap.push { cls := .type "dict", data := .dict #[] }) scope.names }
  have nfp : ∀ b ∈ fp, (upd H2 D (.dK [])) b = none := fun b hb => (f3 b hb).1.1
  generalize hce : compEnvC scope (cellsFrom (s3.heap.objs.size + 1) scope.names (cloFrom X.env.cells scope.names [])) s3.heap.objs.size X.env = ce at I4 pg pt pk pe pi1 pg1 pt1 ⊢
  have cL : ce.locals = s3.heap.objs.size := by subst hce; rfl
  generalize hH3 : upd H2 D (.dK []) = H3 at I3 I4 pg pt pk pe pi1 pg1 pt1 w0 nfp f3
  generalize hs4 : ({ s3 with heap := pushCells (s3.heap.push { cls := .type "dict", data := .dict #[] }) scope.names } : Shared) = s4 at I4 ⊢
  have st4 : tn 0 s4.heap := T.keep _ _ _ st3 fun b _ o e => by rw [← hs4]; exact pushCells_keeps _ _ _ _ (Heap.get?_push_of_some _ e)
  have stat : ∀ {σ' : L2.St} {H' : Hp} {s' : Shared}, Inv (X.blk s3 H3 scope ce fp) [] σ' H' s' → (∀ b ∈ fp, H' b = none) → ∀ b ∈ fp, FpOk (X.blk s3 H3 scope ce fp) [] H' b := fun {σ' H' s'} I' hn b hb =>
    ⟨hn b hb, (I'.ok.exf b hb).1, I'.ok.exfs b hb, .inl hb, fun x c e => (I'.ok.exf b hb).2 x c e, fun p hp => absurd (show p ∈ ([] : List (Addr × Obj)) ++ [] from hp) (by simp)⟩
  have loop : codeAny (model X.prog X.w) X.A (.compLoop (.DictComp kx vx [⟨tg, iter, ifs, 0⟩, ⟨tg1, iter1, ifs1, 0⟩] scope pos) 0 (.ref it) (.ref D) ce) (compPost (model X.prog X.w) X.A X.xe use Qf (.ref D) s3.heap.objs.size) s4 := by
    refine compLoop2d_out (hs1 ce) (fun n s' => ∃ i H', Inv (X.blk s3 H3 scope ce fp) [] (wipe σ (own.map (·.2))) H' s' ∧ tn i s'.heap ∧ (∀ b ∈ fp, H' b = none) ∧ W i n H') ?_ m0 ⟨0, H3, I4, st4, nfp, w0⟩
    rintro n s5 ⟨i, H5, I5, st5, n5, w5⟩
    rcases turn i n H5 w5 with ⟨stop, qq⟩ | ⟨go, Nx, hNx, step⟩
    · have td := T.done (X.blk s3 H3 scope ce fp) rfl rfl rfl hc i [] s5 _ H5 (fun _ _ => False) I5 (stat I5 n5) st5 stop
      refine thnF td fun r s6 ⟨hr, I6⟩ => ?_
      subst hr
      -- back in the def's context
      have I7 : Inv X pins σ H5 s6 := I3.call' (ch := fp) I6.os I6.base I6.hok I6.bare fun b hb => ⟨(f3 b hb).1.2.2.2.1, (f3 b hb).1.2.1, (f3 b hb).1.2.2.2.2.1, (f3 b hb).1.2.2.2.2.2⟩
      have nC : H5 s3.heap.objs.size = none := by
        have z : H5 ce.locals = none := I6.free
        rw [cL] at z
        exact z
      obtain ⟨m, hn, _⟩ := I6.loc
      have hn : s6.heap.Ns ce.locals m := hn
      rw [cL] at hn
      exact hRR D s3.heap.objs.size s6 m H5 I7 qq hn (I3.fpOk (Nat.le_refl _) nC)
    · have ti := T.item (X.blk s3 H3 scope ce fp) rfl rfl rfl hc i [] s5 _ H5 (fun _ _ => False) I5 (stat I5 n5) st5 go
      refine thnF ti fun r s6 ⟨u, hr, h6⟩ => ?_
      subst hr
      refine thnF h6 fun _ s7 ⟨x, H7, I7, r7, y7, st7, n7⟩ => ?_
      have I7' := I7.pinned (stat I7 n7) (T.obj _ _ st7)
      refine thnF (pg.run _ s7 _ H7 x u _ I7' r7 (step x H7 y7)) fun _ s8 ⟨σ8, H8, I8, hw8, q8⟩ => ?_
      refine thnF (pt.run _ s8 σ8 H8 _ I8 q8) fun b s9 ⟨H9, I9, q9⟩ => ?_
      -- the turn's end, from any slots that know what the block knew at its start
      have fin : ∀ {σ9 : L2.St} {s' : Shared} {H' : Hp}, Inv (X.blk s3 H3 scope ce fp) ([] ++ pinsAt fp s7.heap) σ9 H' s' → (wipe σ (own.map (·.2))).length = σ9.length → (∀ (j : Nat) v, (wipe σ (own.map (·.2)))[j]? = some (some v) → σ9[j]? = some (some v)) → Nx H' →
          ∃ m, m < n ∧ ∃ i H', Inv (X.blk s3 H3 scope ce fp) [] (wipe σ (own.map (·.2))) H' s' ∧ tn i s'.heap ∧ (∀ b ∈ fp, H' b = none) ∧ W i m H' := fun {σ9 s' H'} I' hl hk nx => by
        obtain ⟨m', hm, w'⟩ := hNx H' nx
        have pin' : ∀ b ∈ fp, ∀ o, s7.heap.get? b = some o → s'.heap.get? b = some o ∧ H' b = none := fun b hb o e =>
          let z := I'.pin (b, o) (List.mem_append_right _ (List.mem_append_right _ (mem_pinsAt hb e)))
          ⟨z.1, z.2.1⟩
        refine ⟨m', hm, i + 1, H', (I'.unpinned (pins := [])).weak hl hk, T.keep _ _ _ st7 fun b hb o e => (pin' b hb o e).1, fun b hb => ?_, w'⟩
        obtain ⟨o, e, _⟩ := T.obj _ _ st7 b hb
        exact (pin' b hb o e).2
      have hl8 : (wipe σ (own.map (·.2))).length = σ8.length := by rw [← hw8, wipe_length]
      have hk8 : ∀ (j : Nat) v, (wipe σ (own.map (·.2)))[j]? = some (some v) → σ8[j]? = some (some v) := fun j v e => by
        rw [← hw8] at e
        exact (wipe_some e).1
      have hk9 : ∀ (j : Nat) v, (wipe σ (own.map (·.2)))[j]? = some (some v) → (wipe σ8 vs1)[j]? = some (some v) := fun j v e => by
        rw [← hw8] at e
        obtain ⟨e1, e2⟩ := wipe_some e
        rw [wipe_out fun z => e2 (hv j z)]
        exact e1
      cases b with
      | false =>
        simp only [Bool.false_eq_true, if_false] at q9 ⊢
        exact fin I9 hl8 hk8 q9
      | true =>
        simp only [if_true] at q9 ⊢
        refine thnF (pi1.run _ s9 σ8 H9 _ I9 q9) fun xv s10 hx => thnF hx fun itv s11 h11 => ?_
        obtain ⟨it1, fp1, tn1, J1, H11, e1, I11, T1, st11, f11, W1, ⟨m1, w1⟩, turn1⟩ := h11
        subst e1
        -- the inner loop
        have stat1 : ∀ {H' : Hp}, (∀ b ∈ fp1, H' b = none) → ∀ b ∈ fp1, FpOk (X.blk s3 H3 scope ce fp) ([] ++ pinsAt fp s7.heap) H' b := fun hn b hb => ⟨hn b hb, (f11 b hb).2⟩
        have loop1 : codeAny (model X.prog X.w) X.A (.compLoop (.DictComp kx vx [⟨tg, iter, ifs, 0⟩, ⟨tg1, iter1, ifs1, 0⟩] scope pos) 1 (.ref it1) (.ref D) ce)
            (fun r s' => match r with
              | .ok _ => ∃ m, m < n ∧ ∃ i H', Inv (X.blk s3 H3 scope ce fp) [] (wipe σ (own.map (·.2))) H' s' ∧ tn i s'.heap ∧ (∀ b ∈ fp, H' b = none) ∧ W i m H'
              | .error _ => False) s11 := by
          refine compLoop2d_in (fun k s' => ∃ j H', Inv (X.blk s3 H3 scope ce fp) ([] ++ pinsAt fp s7.heap) (wipe σ8 vs1) H' s' ∧ tn1 j s'.heap ∧ (∀ b ∈ fp1, H' b = none) ∧ W1 j k H') ?_ m1 ⟨0, H11, I11.weak (wipe_length _ _) (fun j v e => (wipe_some e).1), st11, fun b hb => (f11 b hb).1, w1⟩
          rintro k s12 ⟨j, H12, I12, st12, n12, w12⟩
          rcases turn1 j k H12 w12 with ⟨stop1, nx1⟩ | ⟨go1, Nx1, hNx1, step1⟩
          · refine thnF (T1.done (X.blk s3 H3 scope ce fp) rfl rfl rfl hc j _ s12 (wipe σ8 vs1) H12 (fun _ _ => False) I12 (stat1 n12) st12 stop1) fun r s13 ⟨hr, I13⟩ => ?_
            subst hr
            exact fin I13 (hl8.trans (wipe_length σ8 vs1).symm) hk9 nx1
          · refine thnF (T1.item (X.blk s3 H3 scope ce fp) rfl rfl rfl hc j _ s12 (wipe σ8 vs1) H12 (fun _ _ => False) I12 (stat1 n12) st12 go1) fun r s13 ⟨u1, hr, h13⟩ => ?_
            subst hr
            refine thnF h13 fun _ s14 ⟨x1, H14, I14, r14, y14, st14, n14⟩ => ?_
            have I14' := I14.pinned (stat1 n14) (T1.obj _ _ st14)
            refine thnF (pg1.run _ s14 (wipe σ8 vs1) H14 x1 u1 _ I14' r14 (step1 x1 H14 y14)) fun _ s15 ⟨σ15, H15, I15, hw15, q15⟩ => ?_
            refine thnF (pt1.run _ s15 σ15 H15 _ I15 q15) fun b1 s16 ⟨H16, I16, q16⟩ => ?_
            have fin1 : ∀ {s' : Shared} {H' : Hp}, Inv (X.blk s3 H3 scope ce fp) (([] ++ pinsAt fp s7.heap) ++ pinsAt fp1 s14.heap) σ15 H' s' → Nx1 H' → ∃ m, m < k ∧ ∃ j H', Inv (X.blk s3 H3 scope ce fp) ([] ++ pinsAt fp s7.heap) (wipe σ8 vs1) H' s' ∧ tn1 j s'.heap ∧ (∀ b ∈ fp1, H' b = none) ∧ W1 j m H' := fun {s' H'} I' nx => by
              obtain ⟨m', hm, w'⟩ := hNx1 H' nx
              have pin' : ∀ b ∈ fp1, ∀ o, s14.heap.get? b = some o → s'.heap.get? b = some o ∧ H' b = none := fun b hb o e =>
                let z := I'.pin (b, o) (List.mem_append_right _ (List.mem_append_right _ (mem_pinsAt hb e)))
                ⟨z.1, z.2.1⟩
              refine ⟨m', hm, j + 1, H', I'.unpinned.weak (by rw [← hw15, wipe_length]) (fun j v e => by rw [← hw15] at e; exact (wipe_some e).1), T1.keep _ _ _ st14 fun b hb o e => (pin' b hb o e).1, fun b hb => ?_, w'⟩
              obtain ⟨o, e, _⟩ := T1.obj _ _ st14 b hb
              exact (pin' b hb o e).2
            cases b1 with
            | false =>
              simp only [Bool.false_eq_true, if_false] at q16 ⊢
              exact fin1 I16 q16
            | true =>
              simp only [if_true] at q16 ⊢
              refine thnF (pk.run _ s16 σ15 H16 _ I16 q16) fun z s17 ⟨yk, H17, I17, r17, q17⟩ => ?_
              refine thnF (pe.run _ s17 σ15 H17 _ I17 q17) fun z2 s18 ⟨yv, H18, I18, r18, kvs, k2, ek, hD18, hz18, nx⟩ => ?_
              subst ek
              exact d_dictSet (X := X.blk s3 H3 scope ce fp) I18 hD18 hz18 r17 r18 fun s19 I19 => fin1 I19 nx
        exact compStart1d_ok loop1 (T1.self X.A 0 _ _ _ st11 loop1)
  exact codeAny_compStart_dict loop (T.self X.A 0 _ _ _ st4 loop)
/-- as a value -/
theorem pe_dc2 {kx vx tg iter tg1 iter1 : Expr} {ifs ifs1 : List Expr} {scope : Scope} {own : List (Str × Nat)} {vs1 : List Nat} {pos : Pos} {wi wi1 : TI} {g g1 : TG} {tt tt1 : TT} {tk tv : TE} (hc : X.calm = true) (hN : X.N.Nodup) (hi : PI X tg iter wi) (ok : BlkOk X.N X.env.scope scope own) (hv : ∀ i ∈ vs1, i ∈ own.map (·.2))
    (hg : ∀ (s : Shared) (H : Hp) (C : Addr) (cl : List (Str × Addr)) (fp : List Addr), PG (X.blk s H scope (compEnvC scope cl C X.env) fp) tg g) (ht : ∀ (s : Shared) (H : Hp) (C : Addr) (cl : List (Str × Addr)) (fp : List Addr), PTs (X.blk s H scope (compEnvC scope cl C X.env) fp) ifs tt)
    (hi1 : ∀ (s : Shared) (H : Hp) (C : Addr) (cl : List (Str × Addr)) (fp : List Addr), PI (X.blk s H scope (compEnvC scope cl C X.env) fp) tg1 iter1 wi1)
    (hg1 : ∀ (s : Shared) (H : Hp) (C : Addr) (cl : List (Str × Addr)) (fp : List Addr), PG (X.blk s H scope (compEnvC scope cl C X.env) fp) tg1 g1) (ht1 : ∀ (s : Shared) (H : Hp) (C : Addr) (cl : List (Str × Addr)) (fp : List Addr), PTs (X.blk s H scope (compEnvC scope cl C X.env) fp) ifs1 tt1)
    (hk : ∀ (s : Shared) (H : Hp) (C : Addr) (cl : List (Str × Addr)) (fp : List Addr), PE (X.blk s H scope (compEnvC scope cl C X.env) fp) kx tk) (he : ∀ (s : Shared) (H : Hp) (C : Addr) (cl : List (Str × Addr)) (fp : List Addr), PE (X.blk s H scope (compEnvC scope cl C X.env) fp) vx tv) (hs : ∀ x, foldedSetIterable iter X.env x = pure x := by intro _; rfl) (hs1 : ∀ env x, foldedSetIterable iter1 env x = pure x := by intro _ _; rfl) :
    PE X (.DictComp kx vx [⟨tg, iter, ifs, 0⟩, ⟨tg1, iter1, ifs1, 0⟩] scope pos) (tDc2 wi g tt wi1 g1 tt1 tk tv (own.map (·.2)) vs1) := by
  refine ⟨fun pins s σ H Q I h => ?_⟩
  rw [arm_eval_DictComp]
  refine dc2_core hc hN I hi ok hv hg ht hk he hs hi1 hg1 ht1 hs1 h fun D C s' m H' I' q hn f => ⟨m, hn, fun h'' sb => ?_⟩
  obtain ⟨f0, f1, f2, f3, f4, f5⟩ := f
  exact ⟨.ref D, H', I'.turned (t' := s'.toks) (fun b o hb e => (sb.2 b hb).trans e) f0 f1 f3 f4 f5, rfl, q⟩
end
end ZD
set_option Elab.async false
set_option linter.all false
set_option maxRecDepth 100000
set_option maxHeartbeats 4000000
/-! DL17: dict comprehensions of one or two fors. -/
namespace DL
open PySem L2
open ZT (PT)
/-- a new object D that no slot holds; it may change -/
theorem Rel.guardNew {K : Fg} {w : Wd} {G0 H0 : Hp} {σ : L2.St} {env : EnvM} {G H : Hp} {B : Bag} {D : Addr} {o : HO} (R : Rel K w G0 H0 σ env G H B) (hD : H D = none) (nt' : ∀ ps, o ≠ .tbl ps := by intro _ z; cases z) : Rel K w G0 (upd H0 D o) σ env G (upd H D o) B := by
  have gD := R.ok.free hD
  have ne : ∀ a u, H a = some u → a ≠ D := fun a u h => ne_of_none h hD
  refine ⟨R.ok.newH hD, ⟨R.ent.exG, fun a u h => ?_, fun a u n nt h => ?_, fun a u nt h => ?_⟩, R.len, fun i sv e => ?_, R.dist, R.wk⟩
  · rcases R.ent.fr a u h with q | q
    · exact .inl q
    · right
      rw [upd_ne (ne_of_none h gD)]; exact q
  · by_cases e : a = D
    · subst e; rw [upd_same] at h ⊢; exact h
    · rw [upd_ne e] at h ⊢; exact R.ent.keep a u n nt h
  · by_cases e : a = D
    · subst e; exact ⟨_, nt', upd_same⟩
    · rw [upd_ne e] at h ⊢; exact R.ent.there a u nt h
  · obtain ⟨v, h1, h2⟩ := R.slot i sv e
    refine ⟨v, h1, ?_⟩
    cases sv with
    | d x => exact h2
    | bag => exact h2
    | own xs =>
      obtain ⟨p, vs, e1, e2, e3, e4, e5, e6⟩ := h2
      exact ⟨p, vs, e1, e2, by rw [upd_ne (ne p _ e5)]; exact e3, e4, by rw [upd_ne (ne p _ e5)]; exact e5, e6⟩
    | ownD xs =>
      obtain ⟨p, vs, e1, e2, e3, e4, e5, e6⟩ := h2
      exact ⟨p, vs, e1, e2, by rw [upd_ne (ne p _ e5)]; exact e3, e4, by rw [upd_ne (ne p _ e5)]; exact e5, e6⟩
theorem Rel.turnD {K : Fg} {w : Wd} {G0 H0 : Hp} {σ : L2.St} {env : EnvM} {G H : Hp} {B : Bag} {D : Addr} {o o' : HO} (R : Rel K w G0 (upd H0 D o) σ env G H B) (gD : G D = none) (nD : Nb w D) (hx : ∀ q, H D ≠ some (LamX.CodeO D q)) (nt : ∀ ps, o ≠ .tbl ps := by intro _ z; cases z) (nt' : ∀ ps, o' ≠ .tbl ps := by intro _ z; cases z) : Rel K w G0 (upd H0 D o') σ env G (upd H D o') B := by
  refine ⟨R.ok.mut gD nD hx, ⟨R.ent.exG, fun a u h => ?_, fun a u n nt h => ?_, fun a u nt h => ?_⟩, R.len, fun i sv e => ?_, R.dist, R.wk⟩
  · rcases R.ent.fr a u h with q | q
    · exact .inl q
    · right
      have na : a ≠ D := ne_of_none h gD
      rw [upd_ne na] at q ⊢; exact q
  · by_cases e : a = D
    · subst e; rw [upd_same] at h ⊢; exact h
    · rw [upd_ne e] at h ⊢; exact R.ent.keep a u n nt (by rw [upd_ne e]; exact h)
  · by_cases e : a = D
    · subst e; exact ⟨_, nt', upd_same⟩
    · rw [upd_ne e] at h ⊢; exact R.ent.there a u nt (by rw [upd_ne e]; exact h)
  · obtain ⟨v, h1, h2⟩ := R.slot i sv e
    have ne : ∀ p : Addr, NN ((upd H0 D o) p) → p ≠ D := fun p h z => by
      subst z; exact h.ne upd_same nt rfl
    refine ⟨v, h1, ?_⟩
    cases sv with
    | d x => exact h2
    | bag => exact h2
    | own xs =>
      obtain ⟨p, vs, e1, e2, e3, e4, e5, e6⟩ := h2
      have np := ne p e3
      exact ⟨p, vs, e1, e2, by rw [upd_ne np] at e3 ⊢; exact e3, e4, by rw [upd_ne np]; exact e5, e6⟩
    | ownD xs =>
      obtain ⟨p, vs, e1, e2, e3, e4, e5, e6⟩ := h2
      have np := ne p e3
      exact ⟨p, vs, e1, e2, by rw [upd_ne np] at e3 ⊢; exact e3, e4, by rw [upd_ne np]; exact e5, e6⟩
def mDGo (g : PD → EnvM → Option EnvM) (c : EnvM → Bag → Res Bool) (mk mv : EnvM → Bag → Res PD) (env0 : EnvM) : List PD → List (PD × PD) → Bag → Res (List (PD × PD))
  | [], acc, B => .ok acc B
  | d :: ds, acc, B => match g d env0 with
    | none => .bad
    | some e1 => match c e1 B with
      | .ok true B1 => (match mk e1 B1 with
        | .ok kd B2 => (match mv e1 B2 with
          | .ok vd B3 => (match keyP kd with
            | some k => if acc.length < sizeLine then mDGo g c mk mv env0 ds (putP acc k vd) B3 else .bad
            | none => .bad)
          | _ => .bad)
        | _ => .bad)
      | .ok false B1 => mDGo g c mk mv env0 ds acc B1
      | _ => .bad
theorem dgo_sem {st : Bool} {Xb : Cx} {tg kx vx : Expr} {ifs : List Expr} {g : TG} {tt : TT} {tk tv : TE} {mgt : PD → EnvM → Option EnvM} {mt : EnvM → Bag → Res Bool} {mk mv : EnvM → Bag → Res PD} {js vs : List Nat} (gg : GT Xb st tg g mgt js) (tt' : TDs Xb W0 ifs tt mt) (kk : ED Xb W0 kx tk mk) (vv : ED Xb W0 vx tv mv) (hjs : ∀ j ∈ js, j ∈ vs)
    {w : Wd} {G0 H0 : Hp} {σ : L2.St} {env : EnvM} {G1 H1 : Hp} {D : Addr} {J : It} {Gw : Hp} {ds : List PD} (wk : Walks Xb.K st J Gw ds) (hD : H1 D = none) (nD : Nb w D)
    {Gs Hs : Hp} {Bs BF : Bag} {kvs0 : List (Key × V)} {acc0 accF : List (PD × PD)} (R : Rel Xb.K w G0 (upd H0 D (.dK kvs0)) σ env Gs Hs Bs) (sw : Sub Gw Gs) (s1 : Step w G1 H1 Gs Hs) (hDs : Hs D = some (.dK kvs0)) (gD : Gs D = none) (ra : DKs Xb.K Gs kvs0 acc0)
    (hres : mDGo mgt mt mk mv (wipeE env vs) ds acc0 Bs = .ok accF BF) (Fin : Hp → Prop)
    (hF : ∀ (G' H : Hp) (kvs : List (Key × V)), (∀ (σ2 : L2.St) (env2 : EnvM), Rel Xb.K w G0 (upd H0 D (.dK kvs0)) σ2 env2 Gs Hs Bs → Rel Xb.K w G0 (upd H0 D (.dK kvs)) σ2 env2 G' H BF) → Sub Gs G' → Step w G1 H1 G' H → H D = some (.dK kvs) → G' D = none → DKs Xb.K G' kvs accF → Fin H) :
    ∃ W : Nat → Nat → Hp → Prop, (∃ m, W 0 m Hs) ∧ ∀ i m H, W i m H →
      (J.stop i H ∧ Fin H) ∨ (J.go i H ∧ ∃ Nx : Hp → Prop, (∀ H', Nx H' → ∃ m', m' < m ∧ W (i + 1) m' H') ∧ ∀ x H', J.yld i H x H' → g x (wipe σ vs) H' fun σ2 H2 => wipe σ2 vs = wipe σ vs ∧ tt σ2 H2 fun b H3 =>
        if b = true then tk σ2 H3 fun y H4 => tv σ2 H4 fun z H5 => ∃ kvs k, y = kV k ∧ H5 D = some (.dK kvs) ∧ kvs.length < sizeLine ∧ Nx (upd H5 D (.dK (putK kvs k z))) else Nx H3) := by
  refine ⟨fun i m H => m = ds.length - i ∧ i ≤ ds.length ∧ ∃ G' B kvs acc, (∀ (σ2 : L2.St) (env2 : EnvM), Rel Xb.K w G0 (upd H0 D (.dK kvs0)) σ2 env2 Gs Hs Bs → Rel Xb.K w G0 (upd H0 D (.dK kvs)) σ2 env2 G' H B) ∧ Sub Gs G' ∧ Step w G1 H1 G' H ∧ H D = some (.dK kvs) ∧ G' D = none ∧ DKs Xb.K G' kvs acc ∧ mDGo mgt mt mk mv (wipeE env vs) (ds.drop i) acc B = .ok accF BF,
    ⟨ds.length, by simp, Nat.zero_le _, Gs, Bs, kvs0, acc0, fun _ _ q => q, Sub.refl _, s1, hDs, gD, ra, hres⟩, ?_⟩
  rintro i m H ⟨rfl, hin, G2, B2, kvs, acc, T2, b2, s2, hD2, g2, ra2, p2⟩
  have R2 := T2 σ env R
  by_cases hlt : i < ds.length
  · right
    have hd : ds[i]? = some ds[i] := by simp [hlt]
    rw [List.drop_eq_getElem_cons hlt] at p2
    refine ⟨wk.go i H _ (Sub.trans sw (Sub.trans b2 R2.ok.sub)) hd, fun H => ∃ G' B kvs acc, (∀ (σ2 : L2.St) (env2 : EnvM), Rel Xb.K w G0 (upd H0 D (.dK kvs0)) σ2 env2 Gs Hs Bs → Rel Xb.K w G0 (upd H0 D (.dK kvs)) σ2 env2 G' H B) ∧ Sub Gs G' ∧ Step w G1 H1 G' H ∧ H D = some (.dK kvs) ∧ G' D = none ∧ DKs Xb.K G' kvs acc ∧ mDGo mgt mt mk mv (wipeE env vs) (ds.drop (i + 1)) acc B = .ok accF BF,
      fun H' q => ⟨ds.length - (i + 1), by omega, rfl, hlt, q⟩, fun x H3 y => ?_⟩
    obtain ⟨G3, s3, o3, d3⟩ := wk.yld i w G2 H B2 x H3 _ R2.ok (Sub.trans sw b2) hd y
    have R3 := R2.step s3 o3
    have hD3 := s3.keep D _ nD.one (fun _ z => by cases z) hD2
    have g3 : G3 D = none := s3.notIn g2 hD2
    unfold mDGo at p2
    cases q : mgt ds[i] (wipeE env vs) with
    | none => rw [q] at p2; cases p2
    | some env3 =>
      rw [q] at p2
      refine gg.sem w G0 _ (wipe σ vs) (wipeE env vs) G3 H3 B2 x _ env3 _ (R3.wipe vs) d3 q fun σ4 R4 w4 => ⟨?_, ?_⟩
      · rw [w4 vs hjs]; exact wipe_wipe vs fun _ z => z
      · cases z : mt env3 B2 with
        | bad => simp only [z] at p2; cases p2
        | exc c as B4 => simp only [z] at p2; cases p2
        | ok b B4 =>
          refine tt'.sem w G0 _ σ4 env3 G3 H3 B2 _ R4 ?_
          rw [z]
          intro b' G5 H5 s5 o5 eb
          subst eb
          have R5 := R3.step s5 o5
          have hD5 := s5.keep D _ nD.one (fun _ z => by cases z) hD3
          have g5 : G5 D = none := s5.notIn g3 hD3
          have s15 := (s2.trans s3).trans s5
          have b5 := Sub.trans b2 (Sub.trans s3.exG s5.exG)
          have ra5 := (ra2.mono s3.exG).mono s5.exG
          cases b' with
          | false =>
            simp only [z] at p2
            exact ⟨G5, B4, kvs, acc, fun _ _ q => ((T2 _ _ q).step s3 o3).step s5 o5, b5, s15, hD5, g5, ra5, p2⟩
          | true =>
            simp only [z] at p2
            cases z2 : mk env3 B4 with
            | bad => simp only [z2] at p2; cases p2
            | exc c as B6 => simp only [z2] at p2; cases p2
            | ok kd B6 =>
              simp only [z2] at p2
              show tk σ4 H5 _
              refine kk.sem w G0 _ σ4 env3 G5 H5 B4 _ (R4.step s5 o5) ?_
              rw [z2]
              intro yk G6 H6 s6 o6 d6
              cases z3 : mv env3 B6 with
              | bad => simp only [z3] at p2; cases p2
              | exc c as B6 => simp only [z3] at p2; cases p2
              | ok vd B7 =>
                simp only [z3] at p2
                refine vv.sem w G0 _ σ4 env3 G6 H6 B6 _ ((R4.step s5 o5).step s6 o6) ?_
                rw [z3]
                intro yv G7 H7 s7 o7 d7
                cases z4 : keyP kd with
                | none => simp only [z4] at p2; cases p2
                | some k =>
                  simp only [z4] at p2
                  by_cases hl : acc.length < sizeLine
                  · rw [if_pos hl] at p2
                    have R7 := (R5.step s6 o6).step s7 o7
                    have g6 : G6 D = none := s6.notIn g5 hD5
                    have hD6 := s6.keep D _ nD.one (fun _ z => by cases z) hD5
                    have g7 : G7 D = none := s7.notIn g6 hD6
                    have hD7 := s7.keep D _ nD.one (fun _ z => by cases z) hD6
                    have ra7 := (ra5.mono s6.exG).mono s7.exG
                    exact ⟨kvs, k, keyV d6 z4, hD7, by rw [ra7.length]; exact hl, G7, B7, putK kvs k yv, putP acc k vd, fun _ _ q => (((((T2 _ _ q).step s3 o3).step s5 o5).step s6 o6).step s7 o7).turnD g7 nD (fun _ => by rw [hD7]; exact noCo (fun _ z => by cases z)), Sub.trans b5 (Sub.trans s6.exG s7.exG), ((s15.trans s6).trans s7).mutNew hD, upd_same, g7, ra7.put k d7, p2⟩
                  · rw [if_neg hl] at p2; cases p2
  · left
    have e : i = ds.length := by omega
    subst e
    rw [List.drop_length] at p2
    cases p2
    exact ⟨wk.stop _ H (Sub.trans sw (Sub.trans b2 R2.ok.sub)) (Nat.le_refl _), hF G2 H kvs T2 b2 s2 hD2 g2 ra2⟩
end DL
set_option Elab.async false
set_option linter.all false
set_option maxRecDepth 100000
set_option maxHeartbeats 4000000
/-! DL18: dict comprehensions as values. -/
namespace DL
open PySem L2
open ZT (PT)
section
variable {X : Cx} {W : WX}
/-- what is new becomes data -/
def mFrV (m : EnvM → Bag → Res SV) : EnvM → Bag → Res PD := fun env B => (m env B).bind fun sv B1 => match sv with
  | .d x => .ok x B1
  | .own xs => .ok (.list xs) B1
  | .ownD ds => .ok (.dict ds) B1
  | .bag => .bad
theorem ed_frV {e : Expr} {t : TE} {m : EnvM → Bag → Res SV} (h : MD X W e t m) : ED X W e t (mFrV m) := by
  refine ⟨h.pe, fun w G0 H0 σ env G H B Q R hp => h.sem w G0 H0 σ env G H B Q R ?_⟩
  unfold mFrV at hp
  cases q : m env B with
  | bad => rw [q] at hp; exact hp
  | exc c as B1 => rw [q] at hp; exact hp
  | ok sv B1 =>
    rw [q] at hp
    intro v G' H' s o r
    cases sv with
    | d x => exact hp v G' H' s o r
    | bag => exact hp.elim
    | own xs =>
      obtain ⟨p, vs, rfl, h1, h2, h3, h4, h5⟩ := r
      exact hp _ (upd G' p (.lst vs)) H' (s.freeze h1 h2) (o.freeze h3 h4) (.lst upd_same (h5.mono (sub_upd h1)))
    | ownD xs =>
      obtain ⟨p, vs, rfl, h1, h2, h3, h4, h5⟩ := r
      exact hp _ (upd G' p (.dK vs)) H' (s.freeze h1 h2) (o.freeze h3 h4) (.dct upd_same (h5.mono (sub_upd h1)))
def mDcx (vs : List Nat) (mi : EnvM → Bag → Res (List PD)) (g : PD → EnvM → Option EnvM) (c : EnvM → Bag → Res Bool) (mk mv : EnvM → Bag → Res PD) : EnvM → Bag → Res SV := fun env B => (mi env B).bind fun ds B1 => match mDGo g c mk mv (wipeE env vs) ds [] B1 with
  | .ok acc B2 => .ok (.ownD acc) B2
  | _ => .bad
theorem md_dc {st : Bool} {kx vx tg iter : Expr} {ifs : List Expr} {scope : Scope} (own : List (Str × Nat)) {pos : Pos} {wi : TI} {g : TG} {tt : TT} {tk tv : TE} {mi : EnvM → Bag → Res (List PD)} {mgt : PD → EnvM → Option EnvM} {mt : EnvM → Bag → Res Bool} {mk mv : EnvM → Bag → Res PD} {js : List Nat} (hc : X.calm = true) (hN : X.N.Nodup) (hi : WI X W st tg iter wi mi)
    (hg : ∀ (s : Shared) (H : Hp) (C : Addr) (cl : List (Str × Addr)) (fp : List Addr), GT (X.blk s H scope (compEnvC scope cl C X.env) fp) st tg g mgt js) (ht : ∀ (s : Shared) (H : Hp) (C : Addr) (cl : List (Str × Addr)) (fp : List Addr), TDs (X.blk s H scope (compEnvC scope cl C X.env) fp) W0 ifs tt mt)
    (hk : ∀ (s : Shared) (H : Hp) (C : Addr) (cl : List (Str × Addr)) (fp : List Addr), ED (X.blk s H scope (compEnvC scope cl C X.env) fp) W0 kx tk mk) (he : ∀ (s : Shared) (H : Hp) (C : Addr) (cl : List (Str × Addr)) (fp : List Addr), ED (X.blk s H scope (compEnvC scope cl C X.env) fp) W0 vx tv mv)
    (ok : blkC X.N X.env.scope scope own = true := by rfl) (hjs : ∀ j ∈ js, j ∈ own.map (·.2) := by decide) (hs : ∀ x, foldedSetIterable iter X.env x = pure x := by intro _; rfl) :
    MD X W (.DictComp kx vx [⟨tg, iter, ifs, 0⟩] scope pos) (tDc wi g tt tk tv (own.map (·.2))) (mDcx (own.map (·.2)) mi mgt mt mk mv) := by
  refine ⟨pe_dc hc hN hi.pe (blkOk_by ok) (fun s H C cl fp => (hg s H C cl fp).pg) (fun s H C cl fp => (ht s H C cl fp).pe) (fun s H C cl fp => (hk s H C cl fp).pe) (fun s H C cl fp => (he s H C cl fp).pe) hs, fun w G0 H0 σ env G H B Q R h => ?_⟩
  have gg := hg X.s_0 X.H_0 0 [] []
  have tt' := ht X.s_0 X.H_0 0 [] []
  have kk := hk X.s_0 X.H_0 0 [] []
  have vv := he X.s_0 X.H_0 0 [] []
  generalize own.map (·.2) = vs at *
  refine hi.sem w G0 H0 σ env G H B _ R (PostM.bind h fun ds B1 J G1 H1 s1 o1 wk h1 => ?_)
  have R1 := R.step s1 o1
  intro D hD
  have nD : Nb w D := o1.nb hD
  cases e : mDGo mgt mt mk mv (wipeE env vs) ds [] B1 with
  | bad => rw [e] at h1; exact h1.elim
  | exc c as B2 => rw [e] at h1; exact h1.elim
  | ok acc B2 =>
    rw [e] at h1
    have hD0 : NN (H D) := s1.back0 (.inl hD)
    refine dgo_sem gg tt' kk vv hjs wk hD nD (R1.guardNew (o := .dK []) hD) (Sub.refl _) (Step.newH hD) upd_same (o1.free hD) .nil e (fun H => Q (.ref D) H) fun G' H' kvs T' b s' hD' g' r' => ?_
    have R' := T' _ _ (R1.guardNew hD)
    exact h1 (.ref D) G' H' (s1.trans s') R'.ok ⟨D, kvs, rfl, g', hD0, nD, hD', r'⟩
/-! ### two fors -/
def mDGo2 (g : PD → EnvM → Option EnvM) (c : EnvM → Bag → Res Bool) (mi1 : EnvM → Bag → Res (List PD)) (g1 : PD → EnvM → Option EnvM) (c1 : EnvM → Bag → Res Bool) (mk mv : EnvM → Bag → Res PD) (vs1 : List Nat) (env0 : EnvM) : List PD → List (PD × PD) → Bag → Res (List (PD × PD))
  | [], acc, B => .ok acc B
  | d :: ds, acc, B => match g d env0 with
    | none => .bad
    | some e1 => match c e1 B with
      | .ok true B1 => (match mi1 e1 B1 with
        | .ok ds1 B2 => (match mDGo g1 c1 mk mv (wipeE e1 vs1) ds1 acc B2 with
          | .ok acc' B3 => mDGo2 g c mi1 g1 c1 mk mv vs1 env0 ds acc' B3
          | _ => .bad)
        | _ => .bad)
      | .ok false B1 => mDGo2 g c mi1 g1 c1 mk mv vs1 env0 ds acc B1
      | _ => .bad
def mDcx2 (vs vs1 : List Nat) (mi : EnvM → Bag → Res (List PD)) (g : PD → EnvM → Option EnvM) (c : EnvM → Bag → Res Bool) (mi1 : EnvM → Bag → Res (List PD)) (g1 : PD → EnvM → Option EnvM) (c1 : EnvM → Bag → Res Bool) (mk mv : EnvM → Bag → Res PD) : EnvM → Bag → Res SV := fun env B => (mi env B).bind fun ds B1 =>
  match mDGo2 g c mi1 g1 c1 mk mv vs1 (wipeE env vs) ds [] B1 with
  | .ok acc B2 => .ok (.ownD acc) B2
  | _ => .bad
theorem md_dc2 {st st1 : Bool} {kx vx tg iter tg1 iter1 : Expr} {ifs ifs1 : List Expr} {scope : Scope} (own : List (Str × Nat)) (vs1 : List Nat) {pos : Pos} {wi wi1 : TI} {g g1 : TG} {tt tt1 : TT} {tk tv : TE} {mi mi1 : EnvM → Bag → Res (List PD)} {mgt mgt1 : PD → EnvM → Option EnvM} {mt mt1 : EnvM → Bag → Res Bool} {mk mv : EnvM → Bag → Res PD} {js js1 : List Nat} (hc : X.calm = true) (hN : X.N.Nodup) (hi : WI X W st tg iter wi mi)
    (hg : ∀ (s : Shared) (H : Hp) (C : Addr) (cl : List (Str × Addr)) (fp : List Addr), GT (X.blk s H scope (compEnvC scope cl C X.env) fp) st tg g mgt js) (ht : ∀ (s : Shared) (H : Hp) (C : Addr) (cl : List (Str × Addr)) (fp : List Addr), TDs (X.blk s H scope (compEnvC scope cl C X.env) fp) W0 ifs tt mt)
    (hi1 : ∀ (s : Shared) (H : Hp) (C : Addr) (cl : List (Str × Addr)) (fp : List Addr), WI (X.blk s H scope (compEnvC scope cl C X.env) fp) W0 st1 tg1 iter1 wi1 mi1)
    (hg1 : ∀ (s : Shared) (H : Hp) (C : Addr) (cl : List (Str × Addr)) (fp : List Addr), GT (X.blk s H scope (compEnvC scope cl C X.env) fp) st1 tg1 g1 mgt1 js1) (ht1 : ∀ (s : Shared) (H : Hp) (C : Addr) (cl : List (Str × Addr)) (fp : List Addr), TDs (X.blk s H scope (compEnvC scope cl C X.env) fp) W0 ifs1 tt1 mt1)
    (hk : ∀ (s : Shared) (H : Hp) (C : Addr) (cl : List (Str × Addr)) (fp : List Addr), ED (X.blk s H scope (compEnvC scope cl C X.env) fp) W0 kx tk mk) (he : ∀ (s : Shared) (H : Hp) (C : Addr) (cl : List (Str × Addr)) (fp : List Addr), ED (X.blk s H scope (compEnvC scope cl C X.env) fp) W0 vx tv mv)
    (ok : blkC X.N X.env.scope scope own = true := by rfl) (hjs : ∀ j ∈ js, j ∈ own.map (·.2) := by decide) (hjs1 : ∀ j ∈ js1, j ∈ vs1 := by decide) (hv : ∀ j ∈ vs1, j ∈ own.map (·.2) := by decide) (hs : ∀ x, foldedSetIterable iter X.env x = pure x := by intro _; rfl) (hs1 : ∀ env x, foldedSetIterable iter1 env x = pure x := by intro _ _; rfl) :
    MD X W (.DictComp kx vx [⟨tg, iter, ifs, 0⟩, ⟨tg1, iter1, ifs1, 0⟩] scope pos) (ZD.tDc2 wi g tt wi1 g1 tt1 tk tv (own.map (·.2)) vs1) (mDcx2 (own.map (·.2)) vs1 mi mgt mt mi1 mgt1 mt1 mk mv) := by
  refine ⟨ZD.pe_dc2 hc hN hi.pe (blkOk_by ok) hv (fun s H C cl fp => (hg s H C cl fp).pg) (fun s H C cl fp => (ht s H C cl fp).pe) (fun s H C cl fp => (hi1 s H C cl fp).pe) (fun s H C cl fp => (hg1 s H C cl fp).pg) (fun s H C cl fp => (ht1 s H C cl fp).pe) (fun s H C cl fp => (hk s H C cl fp).pe) (fun s H C cl fp => (he s H C cl fp).pe) hs hs1, fun w G0 H0 σ env G H B Q R h => ?_⟩
  have gg := hg X.s_0 X.H_0 0 [] []
  have tt' := ht X.s_0 X.H_0 0 [] []
  have ii := hi1 X.s_0 X.H_0 0 [] []
  have gg1 := hg1 X.s_0 X.H_0 0 [] []
  have tt1' := ht1 X.s_0 X.H_0 0 [] []
  have kk := hk X.s_0 X.H_0 0 [] []
  have vv := he X.s_0 X.H_0 0 [] []
  generalize own.map (·.2) = vs at *
  refine hi.sem w G0 H0 σ env G H B _ R (PostM.bind h fun ds B1 J G1 H1 s1 o1 wk h1 => ?_)
  have R1 := R.step s1 o1
  intro D hD
  have nD : Nb w D := o1.nb hD
  cases e : mDGo2 mgt mt mi1 mgt1 mt1 mk mv vs1 (wipeE env vs) ds [] B1 with
  | bad => rw [e] at h1; exact h1.elim
  | exc c as B2 => rw [e] at h1; exact h1.elim
  | ok accF BF =>
    rw [e] at h1
    have hD0 : NN (H D) := s1.back0 (.inl hD)
    refine ⟨fun i m H => m = ds.length - i ∧ i ≤ ds.length ∧ ∃ G' B kvs acc, Rel X.K w G0 (upd H0 D (.dK kvs)) σ env G' H B ∧ Sub G1 G' ∧ Step w G1 H1 G' H ∧ H D = some (.dK kvs) ∧ G' D = none ∧ DKs X.K G' kvs acc ∧ mDGo2 mgt mt mi1 mgt1 mt1 mk mv vs1 (wipeE env vs) (ds.drop i) acc B = .ok accF BF,
      ⟨ds.length, by simp, Nat.zero_le _, G1, B1, [], [], R1.guardNew hD, Sub.refl _, Step.newH hD, upd_same, o1.free hD, .nil, e⟩, ?_⟩
    rintro i m H2 ⟨rfl, hin, G2, B2, kvs, acc, R2, b2, s2, hD2, g2, ra2, p2⟩
    by_cases hlt : i < ds.length
    · right
      have hd : ds[i]? = some ds[i] := by simp [hlt]
      rw [List.drop_eq_getElem_cons hlt] at p2
      refine ⟨wk.go i H2 _ (Sub.trans b2 R2.ok.sub) hd, fun H => ∃ G' B kvs acc, Rel X.K w G0 (upd H0 D (.dK kvs)) σ env G' H B ∧ Sub G1 G' ∧ Step w G1 H1 G' H ∧ H D = some (.dK kvs) ∧ G' D = none ∧ DKs X.K G' kvs acc ∧ mDGo2 mgt mt mi1 mgt1 mt1 mk mv vs1 (wipeE env vs) (ds.drop (i + 1)) acc B = .ok accF BF,
        fun H' q => ⟨ds.length - (i + 1), by omega, rfl, hlt, q⟩, fun x H3 y => ?_⟩
      obtain ⟨G3, s3, o3, d3⟩ := wk.yld i w G2 H2 B2 x H3 _ R2.ok b2 hd y
      have R3 := R2.step s3 o3
      have hD3 := s3.keep D _ nD.one (fun _ z => by cases z) hD2
      have g3 : G3 D = none := s3.notIn g2 hD2
      unfold mDGo2 at p2
      cases q : mgt ds[i] (wipeE env vs) with
      | none => rw [q] at p2; cases p2
      | some env3 =>
        rw [q] at p2
        refine gg.sem w G0 _ (wipe σ vs) (wipeE env vs) G3 H3 B2 x _ env3 _ (R3.wipe vs) d3 q fun σ4 R4 w4 => ⟨?_, ?_⟩
        · rw [w4 vs hjs]; exact wipe_wipe vs fun _ z => z
        · cases z : mt env3 B2 with
          | bad => simp only [z] at p2; cases p2
          | exc c as B4 => simp only [z] at p2; cases p2
          | ok b B4 =>
            refine tt'.sem w G0 _ σ4 env3 G3 H3 B2 _ R4 ?_
            rw [z]
            intro b' G5 H5 s5 o5 eb
            subst eb
            have R5 := R3.step s5 o5
            have hD5 := s5.keep D _ nD.one (fun _ z => by cases z) hD3
            have g5 : G5 D = none := s5.notIn g3 hD3
            have s15 := (s2.trans s3).trans s5
            have b5 := Sub.trans b2 (Sub.trans s3.exG s5.exG)
            have ra5 := (ra2.mono s3.exG).mono s5.exG
            cases b' with
            | false =>
              simp only [z] at p2
              exact ⟨G5, B4, kvs, acc, R5, b5, s15, hD5, g5, ra5, p2⟩
            | true =>
              simp only [z] at p2
              cases z2 : mi1 env3 B4 with
              | bad => simp only [z2] at p2; cases p2
              | exc c as B6 => simp only [z2] at p2; cases p2
              | ok ds1 B6 =>
                simp only [z2] at p2
                show wi1 σ4 H5 _
                have R4' := R4.step s5 o5
                refine ii.sem w G0 _ σ4 env3 G5 H5 B4 _ R4' ?_
                rw [z2]
                intro J1 G6 H6 s6 o6 wk1
                cases z3 : mDGo mgt1 mt1 mk mv (wipeE env3 vs1) ds1 acc B6 with
                | bad => simp only [z3] at p2; cases p2
                | exc c as B6 => simp only [z3] at p2; cases p2
                | ok acc' B7 =>
                  simp only [z3] at p2
                  have g6 : G6 D = none := s6.notIn g5 hD5
                  have hD6 := s6.keep D _ nD.one (fun _ z => by cases z) hD5
                  refine dgo_sem gg1 tt1' kk vv hjs1 wk1 hD nD (R4'.step s6 o6) (Sub.refl _) (s15.trans s6) hD6 g6 (ra5.mono s6.exG) z3 _ fun G' H' kvs' T' b' s' hD' g' r' => ?_
                  exact ⟨G', B7, kvs', acc', T' _ _ (R5.step s6 o6), Sub.trans (Sub.trans b5 s6.exG) b', s', hD', g', r', p2⟩
    · left
      have e : i = ds.length := by omega
      subst e
      rw [List.drop_length] at p2
      cases p2
      exact ⟨wk.stop _ H2 (Sub.trans b2 R2.ok.sub) (Nat.le_refl _), h1 (.ref D) G2 H2 (s1.trans s2) R2.ok ⟨D, kvs, rfl, g2, hD0, nD, hD2, ra2⟩⟩
end
end DL
set_option Elab.async false
set_option linter.all false
set_option maxRecDepth 100000
set_option maxHeartbeats 4000000
/-! DL19: texts in order. -/
namespace DL
open PySem L2 PySem.Spec PyProof.Rows
def leS (a b : Str) : Bool := !ltCps b.cps.toList a.cps.toList
theorem leS_le {a b : Str} : leS a b = true ↔ a.cps.toList ≤ b.cps.toList := by
  unfold leS
  rw [ltCps_eq]
  simp [List.not_lt]
theorem leS_trans {a b c : Str} (h1 : leS a b = true) (h2 : leS b c = true) : leS a c = true := leS_le.mpr (List.le_trans (leS_le.mp h1) (leS_le.mp h2))
theorem leS_total (a b : Str) : (leS a b || leS b a) = true := by
  rcases List.le_total a.cps.toList b.cps.toList with h | h
  · rw [leS_le.mpr h]; rfl
  · rw [leS_le.mpr h, Bool.or_true]
theorem leS_anti {a b : Str} (h1 : leS a b = true) (h2 : leS b a = true) : a = b := by
  have e := List.le_antisymm (leS_le.mp h1) (leS_le.mp h2)
  cases a; cases b
  simp only at e
  congr
  exact Array.toList_inj.mp e
def sortS (xs : List Str) : List Str := xs.mergeSort leS
theorem rising_pw : ∀ (p : Str) (l : List Str), risingS p l = true → (p :: l).Pairwise fun a b => leS a b = true
  | p, [], _ => List.pairwise_singleton _ _
  | p, x :: r, h => by
    unfold risingS at h
    rw [Bool.and_eq_true] at h
    have ih := rising_pw x r h.2
    refine List.pairwise_cons.mpr ⟨fun y hy => ?_, ih⟩
    have hx : leS p x = true := h.1
    rcases List.mem_cons.mp hy with rfl | hy
    · exact hx
    · exact leS_trans hx ((List.pairwise_cons.mp ih).1 y hy)
theorem sorted_pw {l : List Str} (h : sortedS l = true) : l.Pairwise fun a b => leS a b = true := by
  cases l with
  | nil => exact .nil
  | cons x r => exact rising_pw x r h
theorem sortS_only {xs ys : List Str} (p : ys.Perm xs) (s : sortedS ys = true) : ys = sortS xs :=
  List.Perm.eq_of_pairwise (fun a b _ _ h1 h2 => leS_anti h1 h2) (sorted_pw s) (List.pairwise_mergeSort (le := leS) (fun _ _ _ => leS_trans) leS_total xs) (p.trans (List.mergeSort_perm xs _).symm)
end DL
set_option Elab.async false
set_option linter.all false
set_option maxRecDepth 100000
set_option maxHeartbeats 4000000
/-! DL20: sorted of texts, of a dict's keys that are texts. -/
namespace DL
open PySem L2
open ZT (PT)
section
variable {X : Cx} {W : WX}
def unS : List PD → Option (List Str)
  | [] => some []
  | .str x :: r => (unS r).map (x :: ·)
  | _ :: _ => none
theorem unS_eq : ∀ {ds : List PD} {xs : List Str}, unS ds = some xs → ds = xs.map PyData.str
  | [], xs, h => by cases h; rfl
  | d :: r, xs, h => by
    cases d with
    | str x =>
      unfold unS at h
      cases e : unS r with
      | none => rw [e] at h; cases h
      | some ys => rw [e] at h; cases h; rw [unS_eq e]; rfl
    | _ => cases h
theorem DRs.strs {K : Fg} {G : Hp} : ∀ ns : List Str, DRs K G (ns.map V.str) (ns.map PyData.str)
  | [] => .nil
  | n :: r => .cons (.str n) (DRs.strs r)
/-- sorted of a list of texts, or of a dict whose keys are texts -/
def sortedSP : List PD → Option PD
  | [.list ds] => match unS ds with
    | some xs => if xs.length < 64 then some (.list ((sortS xs).map PyData.str)) else none
    | none => none
  | _ => none
theorem ca_sortedS : CaD X (rSortedS X.K) sortedSP := by
  intro w G H B vs ds z Q o r hz k
  unfold sortedSP at hz
  split at hz
  · rename_i es
    cases e : unS es with
    | none => simp only [e] at hz; cases hz
    | some xs =>
      simp only [e] at hz
      split at hz
      · rename_i hl
        cases hz
        obtain ⟨v, rfl, d⟩ := r.one
        rw [unS_eq e] at d
        cases d with
        | lst hx q =>
          have e2 := q.of_strs
          subst e2
          refine ⟨_, _, rfl, subL o.sub hx, hl, fun ys p hp hs hn => ?_⟩
          have e3 := sortS_only hp hs
          subst e3
          exact k _ _ _ (Step.new o.sub hn) (o.new hn) (.lst upd_same (DRs.strs _))
      · cases hz
  · cases hz
theorem DKs.keysS {K : Fg} {G : Hp} : ∀ {kvs : List (Key × V)} {ds : List (PD × PD)} {xs : List Str}, DKs K G kvs ds → unS (ds.map (·.1)) = some xs → kvs.map (·.1) = xs.map Sum.inr
  | _, _, _, .nil, h => by cases h; rfl
  | _, _, xs, .cons (k := k) (kvs := kvs) (ds := ds) _ r, h => by
    cases k with
    | inl i => cases h
    | inr x =>
      have h : (unS (ds.map (·.1))).map (x :: ·) = some xs := h
      cases e : unS (ds.map (·.1)) with
      | none => rw [e] at h; cases h
      | some ys =>
        rw [e] at h
        cases h
        rw [List.map_cons, List.map_cons, DKs.keysS r e]
abbrev rSrtDS : List V → Hp → VK → Prop := fun xs H Q => ∃ (a : Addr) (kvs : List (Key × V)) (ks : List Str), xs = [.ref a] ∧ Rd H a (.dK kvs) ∧ kvs.map (·.1) = ks.map Sum.inr ∧ ks.length < 64 ∧ ∀ ys p, ys.Perm ks → PyProof.Rows.sortedS ys = true → H p = none → Q (.ref p) (upd H p (.lst (ys.map V.str)))
def sortedDP : List PD → Option PD
  | [.dict ds] => match unS (ds.map (·.1)) with
    | some xs => if xs.length < 64 then some (.list ((sortS xs).map PyData.str)) else none
    | none => none
  | _ => none
theorem ca_sortedDS : CaD X rSrtDS sortedDP := by
  intro w G H B vs ds z Q o r hz k
  unfold sortedDP at hz
  split at hz
  · rename_i es
    cases e : unS (es.map (·.1)) with
    | none => simp only [e] at hz; cases hz
    | some xs =>
      simp only [e] at hz
      split at hz
      · rename_i hl
        cases hz
        obtain ⟨v, rfl, d⟩ := r.one
        cases d with
        | dct hx q =>
          refine ⟨_, _, xs, rfl, .inl (o.sub _ _ hx), q.keysS e, hl, fun ys p hp hs hn => ?_⟩
          have e3 := sortS_only hp hs
          subst e3
          exact k _ _ _ (Step.new o.sub hn) (o.new hn) (.lst upd_same (DRs.strs _))
      · cases hz
  · cases hz
end
end DL
set_option Elab.async false
set_option linter.all false
set_option maxRecDepth 100000
set_option maxHeartbeats 2000000
/-! DL23: stars in displays; in, not in of any depth; index; is of truths; t * k. -/
namespace DL
open PySem L2
open ZT (PT)
section
variable {X : Cx} {W : WX}
/-! ### stars -/
def mStar (m : EnvM → Bag → Res PD) (r : EnvM → Bag → Res (List SV)) : EnvM → Bag → Res (List SV) := fun env B => (m env B).bind fun x B1 => match x with
  | .list ds => (r env B1).bind fun xs B2 => .ok (ds.map SV.d ++ xs) B2
  | .tuple ds => (r env B1).bind fun xs B2 => .ok (ds.map SV.d ++ xs) B2
  | _ => .bad
theorem DRs.args {K : Fg} {w : Wd} {G : Hp} : ∀ {vs : List V} {ds : List PD}, DRs K G vs ds → ARs K w G vs (ds.map SV.d)
  | _, _, .nil => .nil
  | _, _, .cons h r => .cons h (DRs.args r)
theorem ARs.app {K : Fg} {w : Wd} {G : Hp} : ∀ {vs us : List V} {ss ts : List SV}, ARs K w G vs ss → ARs K w G us ts → ARs K w G (vs ++ us) (ss ++ ts)
  | _, _, _, _, .nil, r => r
  | _, _, _, _, .cons h t, r => .cons h (ARs.app t r)
theorem ad_starK (K : Fg) {t : TE} {t2 : TA} {e : Expr} {es : List Expr} {m : EnvM → Bag → Res PD} {mr : EnvM → Bag → Res (List SV)} {p : Pos} (he : ED X W e t m) (hr : AD X W es t2 mr) (hs : starEach (.Starred e p :: es) X.env = (true, eval e X.env) :: starEach es X.env := by rfl) (hK : X.K = K := by rfl) :
    AD X W (.Starred e p :: es) (StX.tStar K t t2) (mStar m mr) := by
  subst hK
  refine ⟨StX.pa_star he.pe hr.pe hs, fun w G0 H0 σ env G H B Q R h => ?_⟩
  refine he.sem w G0 H0 σ env G H B _ R (PostR.bind h fun x B1 v G1 H1 s1 o1 d1 h1 => ?_)
  cases x with
  | list ds =>
    cases d1 with
    | lst hx q =>
      refine ⟨_, _, rfl, .inr (subL o1.sub hx), hr.sem w G0 H0 σ env G1 H1 B1 _ (R.step s1 o1) (PostR.bind h1 fun xs B2 vs G2 H2 s2 o2 d2 h2 => ?_)⟩
      exact h2 _ G2 H2 Step.refl o2 ((q.mono s2.exG).args.app d2)
  | tuple ds =>
    cases d1 with
    | tup hx q =>
      refine ⟨_, _, rfl, .inl (subT o1.sub hx), hr.sem w G0 H0 σ env G1 H1 B1 _ (R.step s1 o1) (PostR.bind h1 fun xs B2 vs G2 H2 s2 o2 d2 h2 => ?_)⟩
      exact h2 _ G2 H2 Step.refl o2 ((q.mono s2.exG).args.app d2)
  | _ => exact (show False from h1).elim
/-! ### in, not in -/
def inDP (d : PD) : PD → Option Bool
  | .list ds => if SeqAt.shaped d = true ∧ SeqAt.shaped (.list ds) = true then some (ds.any fun z => PyData.eqv z d) else none
  | .tuple ds => if SeqAt.shaped d = true ∧ SeqAt.shaped (.tuple ds) = true then some (ds.any fun z => PyData.eqv z d) else none
  | _ => none
def inAP : PD → PD → Option Bool := gOr inP inDP
def ninDP (d e : PD) : Option Bool := (inDP d e).map (!·)
def ninAP : PD → PD → Option Bool := gOr ninP ninDP
abbrev rInA (K : Fg) : R2 := rOr (rOr (rIn K false) (rInS false)) (rOr (rInD K) (ZT.rInT K false))
abbrev rNinA (K : Fg) : R2 := rOr (rOr (rIn K true) (rInS true)) (rOr (rNotInD K) (ZT.rInT K true))
theorem op_inA (hu : X.A.units + 65 < cLine) : OpR X (compareOp .In) (rInA X.K) := opR_or op_inU (opR_or (op_inD hu) (ZT.op_inT hu))
theorem op_ninA (hu : X.A.units + 65 < cLine) : OpR X (compareOp .NotIn) (rNinA X.K) := opR_or op_ninU (opR_or (op_notInD hu) (ZT.op_ninT hu))
theorem lay_list {ds : List PD} (h : SeqAt.shaped (.list ds) = true) : (PyData.list ds).canLay0 = true := SeqAt.canLay_of_shaped h
theorem lay_tup {ds : List PD} (h : SeqAt.shaped (.tuple ds) = true) : (PyData.tuple ds).canLay0 = true := SeqAt.canLay_of_shaped h
theorem opC_inA : OpC X (rInA X.K) inAP := by
  refine opC_or opC_in fun w G H B x y d e b Q o dx dy hz k => ?_
  cases e with
  | list ds =>
    have hz : (if SeqAt.shaped d = true ∧ SeqAt.shaped (.list ds) = true then some (ds.any fun z => PyData.eqv z d) else none) = some b := hz
    by_cases c : SeqAt.shaped d = true ∧ SeqAt.shaped (.list ds) = true
    · rw [if_pos c] at hz
      cases hz
      exact .inl ⟨d, ds, (dx.mono o.sub).dp (SeqAt.canLay_of_shaped c.1), (dy.mono o.sub).dp (lay_list c.2), c.1, c.2, k⟩
    · rw [if_neg c] at hz; cases hz
  | tuple ds =>
    have hz : (if SeqAt.shaped d = true ∧ SeqAt.shaped (.tuple ds) = true then some (ds.any fun z => PyData.eqv z d) else none) = some b := hz
    by_cases c : SeqAt.shaped d = true ∧ SeqAt.shaped (.tuple ds) = true
    · rw [if_pos c] at hz
      cases hz
      exact .inr ⟨d, ds, (dx.mono o.sub).dp (SeqAt.canLay_of_shaped c.1), (dy.mono o.sub).dp (lay_tup c.2), c.1, c.2, k⟩
    · rw [if_neg c] at hz; cases hz
  | _ => cases hz
theorem opC_ninA : OpC X (rNinA X.K) ninAP := by
  refine opC_or opC_nin fun w G H B x y d e b Q o dx dy hz k => ?_
  cases e with
  | list ds =>
    have hz : (if SeqAt.shaped d = true ∧ SeqAt.shaped (.list ds) = true then some (ds.any fun z => PyData.eqv z d) else none).map (!·) = some b := hz
    by_cases c : SeqAt.shaped d = true ∧ SeqAt.shaped (.list ds) = true
    · rw [if_pos c] at hz
      cases hz
      exact .inl ⟨d, ds, (dx.mono o.sub).dp (SeqAt.canLay_of_shaped c.1), (dy.mono o.sub).dp (lay_list c.2), c.1, c.2, k⟩
    · rw [if_neg c] at hz; cases hz
  | tuple ds =>
    have hz : (if SeqAt.shaped d = true ∧ SeqAt.shaped (.tuple ds) = true then some (ds.any fun z => PyData.eqv z d) else none).map (!·) = some b := hz
    by_cases c : SeqAt.shaped d = true ∧ SeqAt.shaped (.tuple ds) = true
    · rw [if_pos c] at hz
      cases hz
      exact .inr ⟨d, ds, (dx.mono o.sub).dp (SeqAt.canLay_of_shaped c.1), (dy.mono o.sub).dp (lay_tup c.2), c.1, c.2, k⟩
    · rw [if_neg c] at hz; cases hz
  | _ => cases hz
/-! ### is of truths -/
def isBP : PD → PD → Option Bool
  | .bool a, .bool b => some (decide (a = b))
  | _, _ => none
def isnBP : PD → PD → Option Bool
  | .bool a, .bool b => some (!decide (a = b))
  | _, _ => none
theorem opC_isB : OpC X rIsB isBP := by
  intro w G H B x y d e b Q o dx dy hz k
  cases d <;> cases e <;> try (cases hz; done)
  cases dx; cases dy; cases hz
  exact ⟨_, _, rfl, rfl, k⟩
theorem opC_isnB : OpC X rNotB isnBP := by
  intro w G H B x y d e b Q o dx dy hz k
  cases d <;> cases e <;> try (cases hz; done)
  cases dx; cases dy; cases hz
  exact ⟨_, _, rfl, rfl, k⟩
/-! ### a value by the one reading or the other -/
theorem pe_either {e : Expr} {t1 t2 : TE} (h1 : PE X e t1) (h2 : PE X e t2) : PE X e (fun σ H Q => t1 σ H Q ∨ t2 σ H Q) :=
  ⟨fun pins s σ H Q I h => by
    rcases h with h | h
    · exact h1.run pins s σ H Q I h
    · exact h2.run pins s σ H Q I h⟩
/-! ### xs.index(x) -/
def idxOf (d : PD) : List PD → Option Nat
  | [] => none
  | z :: r => if PyData.eqv z d = true then some 0 else (idxOf d r).map (· + 1)
theorem idxOf_get {d : PD} : ∀ {ds : List PD} {j : Nat}, idxOf d ds = some j → ∃ z, ds[j]? = some z ∧ PyData.eqv z d = true ∧ ∀ (m : Nat) (z' : PD), m < j → ds[m]? = some z' → PyData.eqv z' d = false
  | [], j, h => by cases h
  | z :: r, j, h => by
    unfold idxOf at h
    by_cases c : PyData.eqv z d = true
    · rw [if_pos c] at h
      cases h
      exact ⟨z, rfl, c, fun m _ hm => absurd hm (Nat.not_lt_zero m)⟩
    · rw [if_neg c] at h
      cases q : idxOf d r with
      | none => rw [q] at h; cases h
      | some i =>
        rw [q] at h
        have ej : i + 1 = j := Option.some.inj h
        subst ej
        obtain ⟨y, h1, h2, h3⟩ := idxOf_get q
        refine ⟨y, h1, h2, fun m z' hm e => ?_⟩
        cases m with
        | zero =>
          cases e
          simpa using c
        | succ m => exact h3 m z' (by omega) (by simpa using e)
def indexP : PD → PD → Option PD
  | .list ds, d => if SeqAt.shaped (.list ds) = true ∧ SeqAt.shaped d = true then (idxOf d ds).map fun j : Nat => .int (j : Int) else none
  | .tuple ds, d => if SeqAt.shaped (.tuple ds) = true ∧ SeqAt.shaped d = true then (idxOf d ds).map fun j : Nat => .int (j : Int) else none
  | _, _ => none
def isSeqP : PD → Bool
  | .list _ => true
  | .tuple _ => true
  | _ => false
def mIndex (ma mb : EnvM → Bag → Res PD) : EnvM → Bag → Res PD := fun env B => (ma env B).bind fun x B1 => if isSeqP x = true then ((mb env B1).bind fun d B2 => match indexP x d with
  | some z => .ok z B2
  | none => .bad) else .bad
theorem ed_indexK (K : Fg) {a b : Expr} {ta tb : TE} {ma mb : EnvM → Bag → Res PD} {p1 p2 : Pos} (hu : X.A.units + 65 < cLine) (ha : ED X W a ta ma) (hb : ED X W b tb mb)
    (h1 : attributeBase a "index" X.env (eval a X.env) = eval a X.env := by rfl)
    (h2 : ((backTo p2 (starEach [b] X.env)).all (fun x => !x.1) && (backToKw p2 (keywordEach [] X.env)).all (fun x => x.1.isSome) && decide (([b] : List Expr).length + ([] : List Keyword).length + (if ([] : List Keyword).isEmpty then 0 else 1) < 30)) = true := by rfl)
    (h3 : (p1.endLine == p2.line) = true := by rfl) (h4 : starEach [b] X.env = (false, eval b X.env) :: starEach [] X.env := by rfl) (h5 : (backTo p2 (starEach [] X.env)).any (·.1) = false := by rfl) (hK : X.K = K := by rfl) :
    ED X W (.Call (.Attribute a "index" p1) [b] [] p2) (fun σ H Q => tBM K "list" (rIndexD K) ta (tCons tb tNil) σ H Q ∨ ZT.tTM K (ZT.rIndexT K) ta (tCons tb tNil) σ H Q) (mIndex ma mb) := by
  subst hK
  have pb : PA X [b] (tCons tb tNil) := pa_cons hb.pe pa_nil h4
  refine ⟨pe_either (pe_bm PySem.F.plainAttrs_list PySem.F.slot_list_index PySem.F.type_list_index (mt_indexD hu) ha.pe pb h1 h2 h3 h4 h5) (ZT.pe_tm PySem.F.slot_tuple_index PySem.F.type_tuple_index (ZT.mt_indexT hu) ha.pe pb h1 h2 h3 h4 h5), fun w G0 H0 σ env G H B Q R h => ?_⟩
  unfold mIndex at h
  cases e : ma env B with
  | ok x B1 =>
    rw [e] at h
    have mk : ∀ Q1 : VK, (∀ v G' H', Step w G H G' H' → Ok w G' H' B1 → DR X.K G' v x → Q1 v H') → PostE X.K X.mg w G H (ma env B) Q1 (fun c d H' => W c d σ H') := fun Q1 k => by
      rw [e]
      exact k
    cases x with
    | list ds =>
      left
      refine ha.sem w G0 H0 σ env G H B _ R (mk _ fun v G1 H1 s1 o1 d1 => ?_)
      cases d1 with
      | lst hx q =>
        refine ⟨.inl ⟨rfl, _, subL o1.sub hx⟩, hb.sem w G0 H0 σ env G1 H1 B1 _ (R.step s1 o1) (PostR.bind (PostR.step s1 h) fun d B2 y G2 H2 s2 o2 d2 h2 => ?_)⟩
        have h2 : PostE X.K X.mg w G2 H2 (match (if SeqAt.shaped (.list ds) = true ∧ SeqAt.shaped d = true then (idxOf d ds).map fun j : Nat => PyData.int (j : Int) else none) with | some z => .ok z B2 | none => .bad) Q (fun c d H' => W c d σ H') := h2
        by_cases c : SeqAt.shaped (.list ds) = true ∧ SeqAt.shaped d = true
        · rw [if_pos c] at h2
          cases qj : idxOf d ds with
          | none => rw [qj] at h2; exact h2.elim
          | some j =>
            rw [qj] at h2
            obtain ⟨z, g1, g2, g3⟩ := idxOf_get qj
            exact ⟨_, y, d, ds, j, z, rfl, rfl, (DR.lst (s2.exG _ _ hx) (q.mono s2.exG) |>.mono o2.sub).dp (lay_list c.1), (d2.mono o2.sub).dp (SeqAt.canLay_of_shaped c.2), c.1, c.2, g1, g2, g3, h2 _ G2 H2 Step.refl o2 (.int _)⟩
        · rw [if_neg c] at h2; exact h2.elim
    | tuple ds =>
      right
      refine ha.sem w G0 H0 σ env G H B _ R (mk _ fun v G1 H1 s1 o1 d1 => ?_)
      cases d1 with
      | tup hx q =>
        refine ⟨⟨_, _, rfl, sbPT o1.sub hx⟩, hb.sem w G0 H0 σ env G1 H1 B1 _ (R.step s1 o1) (PostR.bind (PostR.step s1 h) fun d B2 y G2 H2 s2 o2 d2 h2 => ?_)⟩
        have h2 : PostE X.K X.mg w G2 H2 (match (if SeqAt.shaped (.tuple ds) = true ∧ SeqAt.shaped d = true then (idxOf d ds).map fun j : Nat => PyData.int (j : Int) else none) with | some z => .ok z B2 | none => .bad) Q (fun c d H' => W c d σ H') := h2
        by_cases c : SeqAt.shaped (.tuple ds) = true ∧ SeqAt.shaped d = true
        · rw [if_pos c] at h2
          cases qj : idxOf d ds with
          | none => rw [qj] at h2; exact h2.elim
          | some j =>
            rw [qj] at h2
            obtain ⟨z, g1, g2, g3⟩ := idxOf_get qj
            exact ⟨_, y, d, ds, j, z, rfl, rfl, (DR.tup (sbPT s2.exG hx) (q.mono s2.exG) |>.mono o2.sub).dp (lay_tup c.1), (d2.mono o2.sub).dp (SeqAt.canLay_of_shaped c.2), c.1, c.2, g1, g2, g3, h2 _ G2 H2 Step.refl o2 (.int _)⟩
        · rw [if_neg c] at h2; exact h2.elim
    | _ => exact (show False from h).elim
  | exc c as B1 =>
    rw [e] at h
    left
    refine ha.sem w G0 H0 σ env G H B _ R ?_
    rw [e]
    exact h
  | bad => rw [e] at h; exact h.elim
end
end DL
set_option Elab.async false
set_option linter.all false
set_option maxRecDepth 100000
set_option maxHeartbeats 2000000
/-! DL24: dict(pairs), d.get(k). -/
namespace DL
open PySem L2
open ZT (PT)
section
variable {X : Cx} {W : WX}
theorem pairs3 {pins : List (Addr × Obj)} {σ : L2.St} {H : Hp} {s : Shared} (I : Inv X pins σ H s) : ∀ {ps : List Addr} {kvs : List (Key × V)}, Paired (fun p kv => SqT X.K H p [kV kv.1, kv.2]) ps kvs →
    ∃ (prs : List (Key × Value)) (us : List Value), KV kvs prs ∧ prs.length = ps.length ∧ us.length = ps.length ∧ ∀ (j : Nat) (b : Addr), ps[j]? = some b → ∃ (k : Key) (v u : Value), prs[j]? = some (k, v) ∧ us[j]? = some u ∧ PyProof.Rows.IsTup s.heap b #[u, v] ∧ keyIs k u = true
  | _, _, .nil => ⟨[], [], .nil, rfl, rfl, fun j b e => by simp at e⟩
  | _, _, .cons (a := p) (b := kv) h t => by
    obtain ⟨prs, us, r, l1, l2, hp⟩ := pairs3 I t
    obtain ⟨its, rv, ht, _⟩ := I.tuple h
    obtain ⟨u, y, rfl, ru, ry⟩ := vals2 rv
    refine ⟨(kv.1, y) :: prs, u :: us, .cons ⟨rfl, ry⟩ r, by simp [l1], by simp [l2], fun j b e => ?_⟩
    cases j with
    | zero =>
      cases e
      exact ⟨kv.1, y, u, rfl, rfl, ht, kV_is (P := X.prog) (w := X.w) ru⟩
    | succ j =>
      obtain ⟨k, v, u', e1, e2, e3⟩ := hp j b (by simpa using e)
      exact ⟨k, v, u', by simpa using e1, by simpa using e2, e3⟩
def rDictT (K : Fg) : List V → Hp → VK → Prop := fun xs H Q => ∃ (a : Addr) (ps : List Addr) (kvs : List (Key × V)), xs = [.ref a] ∧ PT K H a (ps.map V.ref) ∧ Paired (fun p kv => SqT K H p [kV kv.1, kv.2]) ps kvs ∧ ∀ p, H p = none → Q (.ref p) (upd H p (.dK (mergeK [] kvs)))
theorem call_dictT (hcalm : X.calm = true) : CallR X (.type "dict") (rDictT X.K) := by
  intro pins s σ H xs us0 Q I r w
  obtain ⟨a, ps, kvs, rfl, hq, hp, q⟩ := w
  obtain ⟨u0, rfl, rx⟩ := vals1 r
  cases rx
  obtain ⟨its, rv, pl, hz⟩ := I.tuple hq.sq
  obtain rfl := refs_at rv
  rw [List.length_map] at hz
  obtain ⟨prs, us, rel, l1, l2, hpr⟩ := pairs3 I hp
  obtain ⟨o, ho, hc, n, hd⟩ := pl
  obtain ⟨_, pl2⟩ := hq.plain I
  obtain ⟨ob, ho2, hdn⟩ := pl2 a rfl
  rw [ho] at ho2
  cases ho2
  have lz : (List.zip us (prs.map (·.2))).length = ps.length := by rw [List.length_zip, List.length_map, l1, l2, Nat.min_self]
  have P := PairArg.tuple (prog := X.prog) (w := X.w) a (ps.map Value.ref).toArray (fun j => ps.getD j 0) (List.zip us (prs.map (·.2)))
  have items : PairItems s.heap (ps.map Value.ref).toArray (fun j => ps.getD j 0) (List.zip us (prs.map (·.2))) := by
    refine ⟨by rw [lz]; simp, fun j k v e => ?_⟩
    have hj : j < ps.length := by
      have := (List.getElem?_eq_some_iff.mp e).1
      omega
    obtain ⟨k1, v1, u1, e1, e2, e3, e4⟩ := hpr j ps[j] (List.getElem?_eq_getElem hj)
    rw [List.getElem?_zip_eq_some] at e
    obtain ⟨e5, e6⟩ := e
    rw [e2] at e5
    cases e5
    rw [List.getElem?_map, e1] at e6
    cases e6
    refine ⟨by simp [hj], .inl ?_⟩
    have : ps.getD j 0 = ps[j] := by simp [hj]
    show s.heap.IsTuple (ps.getD j 0) #[k, v]
    rw [this]
    exact e3
  have hw : ∀ (i : Nat) (key v : Value), (List.zip us (prs.map (·.2)))[i]? = some (key, v) → ∃ k, prs[i]? = some (k, v) ∧ (mixKind X.prog X.w).is k key = true := fun i key v e => by
    have hj : i < ps.length := by
      have := (List.getElem?_eq_some_iff.mp e).1
      omega
    obtain ⟨k1, v1, u1, e1, e2, e3, e4⟩ := hpr i ps[i] (List.getElem?_eq_getElem hj)
    rw [List.getElem?_zip_eq_some] at e
    obtain ⟨e5, e6⟩ := e
    rw [e2] at e5
    cases e5
    rw [List.getElem?_map, e1] at e6
    cases e6
    exact ⟨k1, e1, e4⟩
  refine PySem.call_dict_pairs (knd := mixKind X.prog X.w) (kvs := prs) P (I.ok.hd hcalm) ⟨⟨o, n, ho, hc, hdn, hd⟩, items⟩ ⟨by rw [lz, l1], hw⟩ (by rw [lz]; exact hz) fun h' tk hd' k => ?_
  have hm : (s.heap.objs.size == sysModules) = false := beq_eq_false_iff_ne.mpr (Nat.ne_of_gt I.big)
  have hlen : (mergeK [] kvs).length ≤ sizeLine := by
    have z := length_mergeK kvs []
    rw [List.length_nil, Nat.zero_add, rel.length, l1] at z
    omega
  exact ⟨.ref s.heap.objs.size, upd H s.heap.objs.size (.dK (mergeK [] kvs)), I.laid (t' := tk) (fun b o => k b o (fun z => nomatch z)) (Nat.le_refl _) (show ObjOk X.prog X.w _ _ _ (.dK (mergeK [] kvs)) from ⟨hlen, hm, merged [] prs, KV.merge rel .nil, hd'⟩), rfl, q _ (I.hok.fresh (Nat.le_refl _))⟩
/-! ### by data -/
def mergeP (acc : List (PD × PD)) : List PD → Option (List (PD × PD))
  | [] => some acc
  | .tuple [k, v] :: r => match keyP k with
    | some j => mergeP (putP acc j v) r
    | none => none
  | _ :: _ => none
theorem mergeP_pair {acc : List (PD × PD)} {k v : PD} {r : List PD} {j : Key} (h : keyP k = some j) : mergeP acc (.tuple [k, v] :: r) = mergeP (putP acc j v) r := by
  show (match keyP k with | some j => mergeP (putP acc j v) r | none => none) = _
  rw [h]
theorem mergeP_inv {acc out : List (PD × PD)} {d : PD} {r : List PD} (h : mergeP acc (d :: r) = some out) : ∃ k v j, d = .tuple [k, v] ∧ keyP k = some j ∧ mergeP (putP acc j v) r = some out := by
  unfold mergeP at h
  split at h
  · rename_i h0
    cases h0
  · rename_i kd vd r' h0
    cases h0
    cases q : keyP kd with
    | none => rw [q] at h; cases h
    | some j => rw [q] at h; exact ⟨kd, vd, j, rfl, q, h⟩
  · cases h
/-- the pairs as they stand -/
theorem pairs_of_dr {K : Fg} {G H : Hp} (sub : Sub G H) {out : List (PD × PD)} : ∀ (ds : List PD) {vs : List V} {acc : List (PD × PD)} {kvs : List (Key × V)}, DRs K G vs ds → DKs K G kvs acc → mergeP acc ds = some out →
    ∃ (ps : List Addr) (prs : List (Key × V)), vs = ps.map V.ref ∧ Paired (fun p kv => SqT K H p [kV kv.1, kv.2]) ps prs ∧ DKs K G (mergeK kvs prs) out := by
  intro ds
  induction ds with
  | nil =>
    intro vs acc kvs hd ka e
    cases hd
    cases e
    exact ⟨[], [], rfl, .nil, ka⟩
  | cons d ds ih =>
    intro vs acc kvs hd ka e
    obtain ⟨kd, vd, j, rfl, q, e⟩ := mergeP_inv e
    cases hd with
    | cons h0 r =>
      cases h0 with
      | tup hx hy =>
        cases hy with
        | cons hk t =>
          cases t with
          | cons hv t2 =>
            cases t2
            obtain ⟨ps, prs, h1, h2, h3⟩ := ih r (ka.put j hv) e
            have ek := keyV hk q
            subst ek
            exact ⟨_ :: ps, (j, _) :: prs, by rw [h1]; rfl, .cons (subT sub hx) h2, h3⟩
def mDictOf (m : EnvM → Bag → Res PD) : EnvM → Bag → Res SV := fun env B => (m env B).bind fun x B1 => match x with
  | .list ds => (match mergeP [] ds with
    | some out => .ok (.ownD out) B1
    | none => .bad)
  | .tuple ds => (match mergeP [] ds with
    | some out => .ok (.ownD out) B1
    | none => .bad)
  | _ => .bad
abbrev rDictL (K : Fg) : List V → Hp → VK → Prop := fun xs H Q => ∃ (a : Addr) (ps : List Addr) (kvs : List (Key × V)), xs = [.ref a] ∧ SqL K H a (ps.map V.ref) ∧ Paired (fun p kv => SqT K H p [kV kv.1, kv.2]) ps kvs ∧ ∀ p, H p = none → Q (.ref p) (L2.upd H p (.dK (mergeK [] kvs)))
theorem callR_or {v : Value} {r1 r2 : List V → Hp → VK → Prop} (h1 : CallR X v r1) (h2 : CallR X v r2) : CallR X v (fun xs H Q => r1 xs H Q ∨ r2 xs H Q) := by
  intro pins s σ H xs us Q I r h
  rcases h with h | h
  · exact h1 pins s σ H xs us Q I r h
  · exact h2 pins s σ H xs us Q I r h
theorem md_dictOf (K : Fg) {e : Expr} {p pos : Pos} {t : TE} {m : EnvM → Bag → Res PD} (hc : X.calm = true) (hm : X.mg "dict" = none) (he : ED X W e t m) (hg : Gl X "dict" := by rfl)
    (hs : starEach [e] X.env = (false, eval e X.env) :: starEach [] X.env := by rfl) (hpl : (backTo pos (starEach [] X.env)).any (·.1) = false := by rfl) (hK : X.K = K := by rfl) :
    MD X W (.Call (.Name "dict" p) [e] [] pos) (tCB (fun xs H Q => rDictL K xs H Q ∨ rDictT K xs H Q) (tCons t tNil)) (mDictOf m) := by
  subst hK
  refine ⟨pe_callTy (callR_or (call_dictP hc) (call_dictT hc)) hg hm (by decide +kernel) (pa_cons he.pe pa_nil hs) (by decide) (by decide) hs hpl, fun w G0 H0 σ env G H B Q R h => ?_⟩
  refine he.sem w G0 H0 σ env G H B _ R (PostM.bind h fun x B1 v G1 H1 s1 o1 d1 h1 => ?_)
  cases x with
  | list ds =>
    cases d1 with
    | lst hx q =>
      have h1 : PostM X.K X.mg w G H (match mergeP [] ds with | some out => .ok (.ownD out) B1 | none => .bad) Q (fun c d H' => W c d σ H') := h1
      cases e1 : mergeP [] ds with
      | none => rw [e1] at h1; exact h1.elim
      | some out =>
        rw [e1] at h1
        obtain ⟨ps, prs, rfl, h2, h3⟩ := pairs_of_dr o1.sub _ q .nil e1
        refine .inl ⟨_, ps, prs, rfl, subL o1.sub hx, h2, fun p hp => ?_⟩
        exact h1 _ G1 _ (s1.trans (Step.newH hp)) (o1.newH hp) ⟨p, _, rfl, o1.free hp, s1.back0 (.inl hp), o1.nb hp, upd_same, h3⟩
  | tuple ds =>
    cases d1 with
    | tup hx q =>
      have h1 : PostM X.K X.mg w G H (match mergeP [] ds with | some out => .ok (.ownD out) B1 | none => .bad) Q (fun c d H' => W c d σ H') := h1
      cases e1 : mergeP [] ds with
      | none => rw [e1] at h1; exact h1.elim
      | some out =>
        rw [e1] at h1
        obtain ⟨ps, prs, rfl, h2, h3⟩ := pairs_of_dr o1.sub _ q .nil e1
        refine .inr ⟨_, ps, prs, rfl, sbPT o1.sub hx, h2, fun p hp => ?_⟩
        exact h1 _ G1 _ (s1.trans (Step.newH hp)) (o1.newH hp) ⟨p, _, rfl, o1.free hp, s1.back0 (.inl hp), o1.nb hp, upd_same, h3⟩
  | _ => exact (show False from h1).elim
/-! ### d.get(k) -/
def getP (ds : List (PD × PD)) (k : Key) : Option PD := (ds.find? fun e => decide (keyP e.1 = some k)).map (·.2)
theorem DKs.get {K : Fg} {G : Hp} (k : Key) : ∀ {kvs : List (Key × V)} {ds : List (PD × PD)}, DKs K G kvs ds → (valV kvs k = none ∧ getP ds k = none) ∨ ∃ v d, valV kvs k = some v ∧ getP ds k = some d ∧ DR K G v d
  | _, _, .nil => .inl ⟨rfl, rfl⟩
  | _, _, .cons (k := j) (v := v) (kvs := kvs) (d := d) (ds := ds) h r => by
    have ih := DKs.get k r
    unfold valV getP
    by_cases c : j = k
    · subst c
      right
      refine ⟨v, d, ?_, ?_, h⟩
      · simp [List.find?]
      · simp [List.find?, keyP_keyD]
    · have c2 : keyP (keyD j) ≠ some k := by rw [keyP_keyD]; exact fun z => c (Option.some.inj z)
      unfold valV getP at ih
      simpa [List.find?, c, c2] using ih
def mGet1 (md mk : EnvM → Bag → Res PD) : EnvM → Bag → Res PD := fun env B => (md env B).bind fun x B1 => match x with
  | .dict ds => (mk env B1).bind fun kd B2 => (match keyP kd with
    | some k => .ok ((getP ds k).getD .none) B2
    | none => .bad)
  | _ => .bad
theorem ed_get1 {o e : Expr} {td ty : TE} {md mk : EnvM → Bag → Res PD} {apos cpos : Pos} (hu : X.A.units + 1 < cLine) (ho : ED X W o td md) (he : ED X W e ty mk) (m : M1 X o "get" apos e cpos := by exact ⟨rfl, rfl, rfl, rfl⟩) :
    ED X W (.Call (.Attribute o "get" apos) [e] [] cpos) (tDGet1 td ty) (mGet1 md mk) := by
  refine ⟨pe_dget1 hu ho.pe he.pe m, fun w G0 H0 σ env G H B Q R h => ?_⟩
  refine ho.sem w G0 H0 σ env G H B _ R (PostR.bind h fun x B1 v G1 H1 s1 o1 d1 h1 => ?_)
  cases x with
  | dict ds =>
    cases d1 with
    | dct hx q =>
      refine ⟨_, rfl, .inl ⟨_, .inl (o1.sub _ _ hx)⟩, he.sem w G0 H0 σ env G1 H1 B1 _ (R.step s1 o1) (PostR.bind h1 fun kd B2 y G2 H2 s2 o2 d2 h2 => ?_)⟩
      have h2 : PostE X.K X.mg w G2 H2 (match keyP kd with | some k => .ok ((getP ds k).getD .none) B2 | none => .bad) Q (fun c d H' => W c d σ H') := h2
      cases ek : keyP kd with
      | none => rw [ek] at h2; exact h2.elim
      | some k =>
        rw [ek] at h2
        have ey : y = kV k := keyV d2 ek
        subst ey
        refine ⟨_, DGet.k (o2.sub _ _ (s2.exG _ _ hx)), ?_⟩
        have h2 : PostE X.K X.mg w G2 H2 (.ok ((getP ds k).getD .none) B2) Q (fun c d H' => W c d σ H') := h2
        rcases (q.mono s2.exG).get k with ⟨e1, e2⟩ | ⟨v', d', e1, e2, e3⟩
        · rw [e1]
          rw [e2] at h2
          exact h2 .non G2 H2 Step.refl o2 .non
        · rw [e1]
          rw [e2] at h2
          exact h2 v' G2 H2 Step.refl o2 e3
  | _ => exact (show False from h1).elim
end
end DL
set_option Elab.async false
set_option linter.all false
set_option maxRecDepth 100000
set_option maxHeartbeats 2000000
/-! DL25: lists of one's own: target = x.pop(e), x[i] = e, x[i] += e; t * k. -/
namespace DL
open PySem L2
open ZT (PT)
section
variable {X : Cx} {W : WX}
/-- target = x.pop(e) -/
def mPopSet (i : Nat) (g : PD → EnvM → Option EnvM) (m : EnvM → Bag → Res PD) : EnvM → Bag → SRes := fun env B => match env[i]? with
  | some (some (.own ys)) => (m env B).s env fun d B1 => (match popP ys d with
    | some (y, ys') => (match g y (env.set i (some (.own ys'))) with
      | some env1 => .nx env1 B1
      | none => .bad)
    | none => .bad)
  | _ => .bad
theorem sd_popSet (i : Nat) {y : Str} {e tg : Expr} {t : TE} {g : TG} {m : EnvM → Bag → Res PD} {mg : PD → EnvM → Option EnvM} {js : List Nat} {p3 p4 pc2 pos : Pos} (he : ED X W e t m) (hg : GT X true tg g mg js) (hN2 : X.N[i]? = some y := by rfl)
    (hpe : PE X (.Call (.Attribute (.Name y p3) "pop" p4) [e] [] pc2) (tBM X.K "list" rPopAt (tVar i) (tCons t tNil)))
    (hs : swapsWithSole [tg] (.Call (.Attribute (.Name y p3) "pop" p4) [e] [] pc2) pos.line X.env = pure false := by rfl) (hw : swappedStores [tg] (.Call (.Attribute (.Name y p3) "pop" p4) [e] [] pc2) X.env = pure none := by rfl)
    (h1 : (assignEach [tg] X.env).map (·.2) = [assign tg X.env] := by rfl) :
    SD X W (.Assign [tg] (.Call (.Attribute (.Name y p3) "pop" p4) [e] [] pc2) pos) (tAsg (tBM X.K "list" rPopAt (tVar i) (tCons t tNil)) g) (mPopSet i mg m) := by
  refine ⟨ps_asg hpe hg.pg hs hw h1, fun w G0 H0 σ env G H B D R h => ?_⟩
  unfold mPopSet at h
  split at h
  · rename_i ys q2
    obtain ⟨p', vs', h1', g', h0', nb', hp', r'⟩ := own_at R q2
    refine ⟨_, h1', .inl ⟨rfl, _, SqL.of hp'⟩, ?_⟩
    refine he.sem w G0 H0 σ env G H B _ R (PostS.bind R (Sub.refl _) h fun d B1 v G1 H1 s1 o1 d1 h2 => ?_)
    have R1 := R.step s1 o1
    cases e1 : popP ys d with
    | none => simp only [e1] at h2; exact h2.elim
    | some z =>
      obtain ⟨y1, ys'⟩ := z
      simp only [e1] at h2
      obtain ⟨k, rfl, k0, k1, k2, rfl⟩ := popP_of e1
      have ev : v = .int k := by cases d1; rfl
      subst ev
      have r1 := r'.mono s1.exG
      obtain ⟨u, k3, k4⟩ := r1.get k2
      have hpp := s1.keep p' _ nb'.one (fun _ z => by cases z) hp'
      have klt : k < (vs'.length : Int) := by
        have := (List.getElem?_eq_some_iff.mp k3).1
        omega
      refine ⟨p', vs', k, k.toNat, u, rfl, rfl, hpp, by omega, k1, seqIndex_of k0 klt, k3, ?_⟩
      obtain ⟨_, _, z1, z2, z3, z4, z5, z6⟩ := own_at R1 q2
      rw [h1'] at z1; cases z1
      have R2 := R1.upOwn i q2 h1' hpp (r1.erase k.toNat) z2 z3 z4
      cases e2 : mg y1 (env.set i (some (.own (ys.eraseIdx k.toNat)))) with
      | none => simp only [e2] at h2; exact h2.elim
      | some env1 =>
        simp only [e2] at h2
        exact hg.sem w G0 H0 σ _ G1 _ B1 u y1 env1 _ R2 k4 e2 fun σ' R' _ => h2 σ' G1 _ R' s1.exG
  · exact h.elim
/-- x[j] = e -/
def mSetIx (i : Nat) (mi mv : EnvM → Bag → Res PD) : EnvM → Bag → SRes := fun env B => (mv env B).s env fun d B1 => match env[i]? with
  | some (some (.own ys)) => (mi env B1).s env fun j B2 => (match j with
    | .int k => (match ixN ys.length k with
      | some n => .nx (env.set i (some (.own (ys.set n d)))) B2
      | none => .bad)
    | _ => .bad)
  | _ => .bad
theorem sd_setIx (i : Nat) {x : Str} {ei ev : Expr} {ti tv : TE} {mi mv : EnvM → Bag → Res PD} {p1 p2 pos : Pos} (hi : ED X W ei ti mi) (hv' : ED X W ev tv mv) (hN : X.N[i]? = some x := by rfl) (hv : Vis X.env.scope x := by first | exact Or.inl rfl | exact Or.inr (Or.inl rfl) | exact Or.inr (Or.inr rfl))
    (hd : (x == ("__debug__" : Str)) = false := by decide) (hcd : (x == ("__classdict__" : Str)) = false := by decide)
    (hs : swapsWithSole [.Subscript (.Name x p1) ei p2] ev pos.line X.env = pure false := by rfl) (hw : swappedStores [.Subscript (.Name x p1) ei p2] ev X.env = pure none := by rfl)
    (h1 : (assignEach [.Subscript (.Name x p1) ei p2] X.env).map (·.2) = [assign (.Subscript (.Name x p1) ei p2) X.env] := by rfl)
    (ha : ∀ v, assign (.Subscript (.Name x p1) ei p2) X.env v = (do
      let ov ← holding [v] (eval (.Name x p1) X.env)
      let iv ← holding [v, ov] (eval ei X.env)
      standAt p2
      holding [v, ov, iv] (setItem ov iv v)
      release [v, ov, iv] []) := by intro _; rfl) :
    SD X W (.Assign [.Subscript (.Name x p1) ei p2] ev pos) (tAsg tv (gSub (tVar i) ti rSetL)) (mSetIx i mi mv) := by
  refine ⟨ps_asg hv'.pe (pg_sub (pe_var hN hv hd hcd) hi.pe set_list ha) hs hw h1, fun w G0 H0 σ env G H B D R h => ?_⟩
  refine hv'.sem w G0 H0 σ env G H B _ R (PostS.bind R (Sub.refl _) h fun d B1 v G1 H1 s1 o1 d1 h1 => ?_)
  have R1 := R.step s1 o1
  split at h1
  · rename_i ys q
    obtain ⟨p, vs, e1, e2, e3, e4, e5, e6⟩ := own_at R1 q
    refine ⟨_, e1, ?_⟩
    refine hi.sem w G0 H0 σ env G1 H1 B1 _ R1 (PostS.bind R1 s1.exG h1 fun j B2 y G2 H2 s2 o2 d2 h2 => ?_)
    cases j with
    | int k =>
      cases d2
      cases en : ixN ys.length k with
      | none => simp only [en] at h2; exact h2.elim
      | some n =>
        simp only [en] at h2
        have R2 := R1.step s2 o2
        have hp2 := s2.keep p _ e4.one (fun _ z => by cases z) e5
        have hg2 : G2 p = none := s2.notIn e2 e5
        have r2 := e6.mono s2.exG
        refine ⟨p, vs, k, n, rfl, rfl, hp2, by rw [r2.length]; exact en, ?_⟩
        exact h2 σ G2 _ (R2.upOwn i q e1 hp2 (r2.set (d1.mono s2.exG) n) hg2 e3 e4) (Sub.trans s1.exG s2.exG)
    | _ => exact (show False from h2).elim
  · exact h1.elim
/-- x[j] += e, ints -/
def mAugIx (i : Nat) (mi mv : EnvM → Bag → Res PD) : EnvM → Bag → SRes := fun env B => match env[i]? with
  | some (some (.own ys)) => (mi env B).s env fun j B1 => (match j with
    | .int k => if 0 ≤ k ∧ k < 2 ^ 63 then (match ixN ys.length k with
      | some n => (match ys[n]? with
        | some (.int a) => (mv env B1).s env fun d B2 => (match d with
          | .int b => .nx (env.set i (some (.own (ys.set n (.int (a + b)))))) B2
          | _ => .bad)
        | _ => .bad)
      | none => .bad) else .bad
    | _ => .bad)
  | _ => .bad
theorem get_own : PGet X (fun x y H Q => ∃ (p : Addr) (xs : List V) (k : Int) (n : Nat) (v : V), x = .ref p ∧ y = .int k ∧ H p = some (.lst xs) ∧ 0 ≤ k ∧ k < 2 ^ 63 ∧ k.toNat = n ∧ xs[n]? = some v ∧ Q v H) := by
  intro pins s σ H o i ov iv Q I ro ri h
  obtain ⟨p, xs, k, n, v, rfl, rfl, hp, k0, k1, rfl, hx, q⟩ := h
  cases ro
  obtain ⟨t, rfl⟩ := ri
  obtain ⟨its, r, pl, hz⟩ := I.list (SqL.of hp)
  obtain ⟨u, hu, ru⟩ := r.get hx
  have hn := line63
  obtain ⟨n, rfl⟩ := Int.eq_ofNat_of_zero_le k0
  have hk : n < xs.length := (List.getElem?_eq_some_iff.mp hx).1
  exact wpAny_getItem_list pl.isList (by omega) (by omega) (by simpa using hu) ⟨v, H, I, ru, q⟩
theorem ixN_pos {n : Nat} {k : Int} {j : Nat} (h : ixN n k = some j) (k0 : 0 ≤ k) : k.toNat = j := by
  unfold ixN at h
  rw [if_pos k0] at h
  by_cases h1 : k < n
  · rw [if_pos h1] at h; exact Option.some.inj h
  · rw [if_neg h1] at h; cases h
theorem sd_augIx (i : Nat) {x : Str} {ei ev : Expr} {ti tv : TE} {mi mv : EnvM → Bag → Res PD} {p1 p2 pos : Pos} (hi : ED X W ei ti mi) (hv' : ED X W ev tv mv) (hN : X.N[i]? = some x := by rfl) (hv : Vis X.env.scope x := by first | exact Or.inl rfl | exact Or.inr (Or.inl rfl) | exact Or.inr (Or.inr rfl))
    (hd : (x == ("__debug__" : Str)) = false := by decide) (hcd : (x == ("__classdict__" : Str)) = false := by decide)
    (ha : ∀ ov iv new, augStore ei ov iv new = (do holding [new, ov, iv] (setItem ov iv new); release [new, ov, iv] []; pure .next) := by intros; rfl) :
    SD X W (.AugAssign (.Subscript (.Name x p1) ei p2) .Add ev pos) (tAugS (tVar i) ti tv (fun x y H Q => ∃ (p : Addr) (xs : List V) (k : Int) (n : Nat) (v : V), x = .ref p ∧ y = .int k ∧ H p = some (.lst xs) ∧ 0 ≤ k ∧ k < 2 ^ 63 ∧ k.toNat = n ∧ xs[n]? = some v ∧ Q v H) (ipI fun i j => i + j) rSetL) (mAugIx i mi mv) := by
  refine ⟨ps_augS (pe_var hN hv hd hcd) hi.pe get_own hv'.pe ip_add set_list ha, fun w G0 H0 σ env G H B D R h => ?_⟩
  unfold mAugIx at h
  split at h
  · rename_i ys q
    obtain ⟨p, vs, e1, e2, e3, e4, e5, e6⟩ := own_at R q
    refine ⟨_, e1, ?_⟩
    refine hi.sem w G0 H0 σ env G H B _ R (PostS.bind R (Sub.refl _) h fun j B1 y G1 H1 s1 o1 d1 h1 => ?_)
    have R1 := R.step s1 o1
    cases j with
    | int k =>
      cases d1
      have h1 : PostS X.K X.mg w G0 H0 G W D (if 0 ≤ k ∧ k < 2 ^ 63 then (match ixN ys.length k with
        | some n => (match ys[n]? with
          | some (.int a) => (mv env B1).s env fun d B2 => (match d with
            | .int b => .nx (env.set i (some (.own (ys.set n (.int (a + b)))))) B2
            | _ => .bad)
          | _ => .bad)
        | none => .bad) else .bad) := h1
      by_cases hk : 0 ≤ k ∧ k < 2 ^ 63
      · rw [if_pos hk] at h1
        cases en : ixN ys.length k with
        | none => simp only [en] at h1; exact h1.elim
        | some n =>
          simp only [en] at h1
          cases ea : ys[n]? with
          | none => simp only [ea] at h1; exact h1.elim
          | some da =>
            simp only [ea] at h1
            cases da with
            | int a =>
              have hp1 := s1.keep p _ e4.one (fun _ z => by cases z) e5
              have hg1 : G1 p = none := s1.notIn e2 e5
              have r1 := e6.mono s1.exG
              obtain ⟨u, u1, u2⟩ := r1.get ea
              cases u2
              refine ⟨p, vs, k, n, .int a, rfl, rfl, hp1, hk.1, hk.2, ixN_pos en hk.1, u1, ?_⟩
              refine hv'.sem w G0 H0 σ env G1 H1 B1 _ R1 (PostS.bind R1 s1.exG h1 fun d B2 z G2 H2 s2 o2 d2 h2 => ?_)
              cases d with
              | int b =>
                cases d2
                have R2 := R1.step s2 o2
                have hp2 := s2.keep p _ e4.one (fun _ z => by cases z) hp1
                have hg2 : G2 p = none := s2.notIn hg1 hp1
                have r2 := r1.mono s2.exG
                refine ⟨a, b, rfl, rfl, p, vs, k, n, rfl, rfl, hp2, by rw [r2.length]; exact en, ?_⟩
                exact h2 σ G2 _ (R2.upOwn i q e1 hp2 (r2.set (.int (a + b)) n) hg2 e3 e4) (Sub.trans s1.exG s2.exG)
              | _ => exact (show False from h2).elim
            | _ => exact (show False from h1).elim
      · rw [if_neg hk] at h1; exact h1.elim
    | _ => exact (show False from h1).elim
  · exact h.elim
/-! ### t * k -/
def repTP : PD → PD → Option PD
  | .tuple xs, .int j => if xs ≠ [] ∧ 2 ≤ j ∧ j ≤ 1000 ∧ xs.length ≤ 1000 then some (.tuple (List.replicate j.toNat xs).flatten) else none
  | _, _ => none
def mulAP : PD → PD → Option PD := gOr mulP repTP
theorem opD_repT : OpD X (ZT.rRepP X.K) repTP := by
  intro w G H B x y d e z Q o dx dy hz k
  unfold repTP at hz
  split at hz
  · obtain ⟨⟨h0, h1, h2, h3⟩, rfl⟩ := some_if hz
    cases dy
    cases dx with
    | tup hx rx =>
      refine ⟨_, _, _, rfl, rfl, subT o.sub hx, fun e => h0 ?_, h1, h2, by rw [rx.length]; exact h3, fun p ob hp hob => ?_⟩
      · subst e
        cases rx
        rfl
      · exact k _ _ _ (Step.new o.sub hp) (o.new hp) (.tup (PT.new hob) ((rx.rep _).mono (new_sub o.sub hp)))
  · cases hz
abbrev rMulA (K : Fg) : R2 := rOr (rOr (rI CMul fun i j => .int (i * j)) rRep) (ZT.rRepP K)
theorem ed_mulK (K : Fg) {a b : Expr} {ta tb : TE} {ma mb : EnvM → Bag → Res PD} {pos : Pos} (ha : ED X W a ta ma) (hb : ED X W b tb mb) (hK : X.K = K := by rfl) : ED X W (.BinOp a .Mult b pos) (tOp (rMulA K) ta tb) (mOp mulAP ma mb) := by
  subst hK
  exact ed_op (opR_or op_mulU ZT.op_repP) (opD_or opD_mul opD_repT) ha hb
end
end DL
set_option Elab.async false
set_option linter.all false
set_option maxRecDepth 100000
set_option maxHeartbeats 4000000
/-! ZS: set(..) of a list or a tuple of texts, sorted of it. -/
namespace ZS
open PySem PySem.Spec PyProof.Rows L2 HT
def keyS (e : Int × Value) : Str := match e.2 with | .str k _ => k | _ => Str.empty
def GoodS (w : World) (e : Int × Value) : Prop := ∃ k tk, e.2 = Value.str k tk ∧ e.1 = hashStr w k
def SetS (w : World) (h : Heap) (a : Addr) (S : Str → Bool) (n : Nat) : Prop :=
  ∃ o es ep t, h.get? a = some o ∧ o.ExactSet ∧ o.data = .set es ep t ∧ (∀ e ∈ es.toList, GoodS w e) ∧ (es.toList.map keyS).Nodup ∧ (∀ k, S k = true ↔ k ∈ es.toList.map keyS) ∧
    es.size < scanBound ∧ t.fits es.size = true ∧ es.size = n ∧ Ris t.place.toList ∧ (w.params.followText "set-order" = true ∨ t.led = true)

section
variable {P : Program} {w : World} {h h' : Heap} {a : Addr} {S : Str → Bool} {n : Nat}

theorem SetS.at (R : SetS w h a S n) (k : ∀ o, h.get? a = some o → h'.get? a = some o) : SetS w h' a S n := by
  obtain ⟨o, es, ep, t, ho, r⟩ := R
  exact ⟨o, es, ep, t, k o ho, r⟩
theorem SetS.lt (R : SetS w h a S n) : a < h.objs.size := by
  obtain ⟨o, es, ep, t, ho, r⟩ := R
  exact Heap.lt_size ho
theorem SetS.congr {S' : Str → Bool} (R : SetS w h a S n) (e : ∀ k, S' k = S k) : SetS w h a S' n := by
  have q : S' = S := funext e
  rw [q]; exact R
theorem good_elems {l : List (Int × Value)} (g : ∀ e ∈ l, GoodS w e) : ElemsOf (strKind P w) l := fun e he => by
  obtain ⟨k, tk, h1, h2⟩ := g e he
  exact ⟨⟨k, by rw [h1]; exact strKind_is P w k tk, h2⟩, by rw [h1] <;> rfl⟩
theorem good_is {e : Int × Value} (g : GoodS w e) (k : Str) : (strKind P w).is k e.2 = true ↔ keyS e = k := by
  obtain ⟨k0, tk, h1, _⟩ := g
  unfold keyS
  rw [h1]
  exact ⟨fun z => ((strKind P w).inj (.str k0 tk) k0 k (strKind_is P w k0 tk) z), fun z => by rw [← z]; exact strKind_is P w k0 tk⟩
theorem good_mem {l : List (Int × Value)} (g : ∀ e ∈ l, GoodS w e) (k : Str) : k ∈ l.map keyS ↔ ∃ e ∈ l, (strKind P w).is k e.2 = true := by
  rw [List.mem_map]
  constructor
  · rintro ⟨e, he, q⟩
    exact ⟨e, he, (good_is (g e he) k).2 q⟩
  · rintro ⟨e, he, q⟩
    exact ⟨e, he, (good_is (g e he) k).1 q⟩
theorem SetS.setOf (R : SetS w h a S n) : h.SetOf (strKind P w) a S n := by
  obtain ⟨o, es, ep, t, ho, hx, hd, g, nd, hm, hb, hf, hn, _⟩ := R
  exact ⟨o, es, ep, t, ho, hx, hd, good_elems g, fun k => (hm k).trans (good_mem g k), hb, hf, hn⟩
end

section
variable {P : Program} {w : World} {A : Around} {E : Value → Shared → Prop} {s : Shared} {a : Addr} {S : Str → Bool} {n : Nat}

/-! ### add -/
theorem store_at {h : Heap} {a : Addr} {o : Obj} {es es' : Array (Int × Value)} {ep : Nat} {t t' : SetTable} (ho : h.get? a = some o) (hd : o.data = .set es ep t) :
    (h.update a (Obj.putSet es' t')).get? a = some { o with data := .set es' (ep + 1) t' } := by
  have q := Heap.get?_update_self (Obj.putSet es' t') ho (by rw [putSet_of es' t' hd]; rfl)
  rw [putSet_of es' t' hd] at q
  exact q

theorem setS_add_tail {g : Bool → Sem Unit} (hg : ∀ (b : Bool) (s₁ : Shared) (Q' : Unit → Shared → Prop), Q' () s₁ → wpAny (model P w) A (g b) Q' E s₁)
    {o : Obj} {es : Array (Int × Value)} {ep : Nat} {t : SetTable} (ho : s.heap.get? a = some o) (hex : o.ExactSet) (hd : o.data = .set es ep t)
    {es1 : Array (Int × Value)} {t2 : SetTable} {S' : Str → Bool} (g1 : ∀ e ∈ es1.toList, GoodS w e) (nd1 : (es1.toList.map keyS).Nodup) (m1 : ∀ k, S' k = true ↔ k ∈ es1.toList.map keyS)
    (hb1 : es1.size < scanBound) (hf2 : t2.fits es1.size = true) (hr : Ris t2.place.toList) (hl : w.params.followText "set-order" = true ∨ t2.led = true) {wasDummy : Bool} {R : Option Bool → Shared → Prop}
    (hR : ∀ h', Heap.SameBut a s.heap h' → SetS w h' a S' es1.size → R (some true) { s with heap := h' }) :
    wpAny (model P w) A (do
        storeSet a es1 t2
        if (!wasDummy && t2.tooFull) = true then do
            g (relayAll t2 es1 (SetTable.grown es1.size)).2.2
            storeSet a (relayAll t2 es1 (SetTable.grown es1.size)).1 (relayAll t2 es1 (SetTable.grown es1.size)).2.1
            pure (some true)
          else pure (some true)) R E s := by
  refine wpAny_bind (wpAny_storeSet_of ho hd ?_ (fits_of_scanBound hb1))
  have ho1 := store_at (es' := es1) (t' := t2) ho hd
  have sb1 := Heap.SameBut.update s.heap a (Obj.putSet es1 t2)
  split
  · have pm := relayAll_perm t2 es1 (SetTable.grown es1.size)
    have hf3 := relayAll_fits t2 es1 (SetTable.grown es1.size)
    have hr3 := relayAll_ris t2 es1 (SetTable.grown es1.size)
    have hl3 := relayAll_led t2 es1 (SetTable.grown es1.size)
    generalize relayAll t2 es1 (SetTable.grown es1.size) = Z at pm hf3 hr3 hl3 ⊢
    obtain ⟨es2, t3, gave⟩ := Z
    dsimp only at pm hf3 hr3 hl3 ⊢
    have hsz : es2.size = es1.size := by rw [← Array.length_toList, pm.length_eq, Array.length_toList]
    have hb2 : es2.size < scanBound := by rw [hsz]; exact hb1
    refine wpAny_bind (hg _ _ _ ?_)
    refine wpAny_bind (wpAny_storeSet_of ho1 rfl ?_ (fits_of_scanBound hb2))
    have ho2 := store_at (es' := es2) (t' := t3) ho1 rfl
    refine wpAny_pure (hR _ (sb1.trans (Heap.SameBut.update _ a _)) ?_)
    exact ⟨_, es2, _, t3, ho2, hex, rfl, fun e he => g1 e (pm.mem_iff.mp he), (pm.map keyS).nodup_iff.mpr nd1, fun k => (m1 k).trans (pm.map keyS).mem_iff.symm, hb2, hf3, hsz, hr3,
      hl.imp id fun z => by rw [hl3]; exact z⟩
  · exact wpAny_pure (hR _ sb1 ⟨_, es1, _, t2, ho1, hex, rfl, g1, nd1, m1, hb1, hf2, rfl, hr, hl⟩)

theorem setS_add_hashed {k : Str} {tk : Tok} {Q : Bool → Shared → Prop} (R : SetS w s.heap a S n) (room : n + 1 < scanBound)
    (hQ : ∀ h', Heap.SameBut a s.heap h' → SetS w h' a (fun j => S j || decide (j = k)) (if S k = true then n else n + 1) → Q (!S k) { s with heap := h' }) :
    wpAny (model P w) A (setAddHashed a (.str k tk) ((strKind P w).hash k)) Q E s := by
  obtain ⟨o, es, ep, t, ho, hex, hd, g, nd, hm, hb, hf, hn, hr, hl⟩ := R
  have hkey : (strKind P w).is k (.str k tk) = true := strKind_is P w k tk
  have hsc : (Value.str k tk).scannable = true := rfl
  have hel : ElemsOf (strKind P w) es.toList := good_elems g
  unfold setAddHashed setAddHashedIn
  refine wpAny_holding (wpAny_bind (wpAny_setState_of ho hd hf ?_))
  dsimp only
  rw [byScan_of hsc hb hel]
  simp only [↓reduceIte]
  unfold setAddByScan
  refine wpAny_bind ?_
  refine wpAny_bind (wpAny_rule ?_)
  refine wpAny_bind (wpAny_setScan_of hkey ho hd hf hel ?_)
  cases hfi : List.findIdx? (fun e => (strKind P w).is k e.2) es.toList with
  | some j =>
    dsimp only
    obtain ⟨hj, pj, _⟩ := List.findIdx?_eq_some_iff_getElem.mp hfi
    have hSk : S k = true := (hm k).2 ((good_mem (P := P) (w := w) g k).2 ⟨es.toList[j], List.getElem_mem hj, pj⟩)
    refine wpAny_pure (wpAny_pure ?_)
    have q := hQ s.heap (Heap.SameBut.refl a s.heap) ⟨o, es, ep, t, ho, hex, hd, g, nd, fun i => by
      rw [Bool.or_eq_true, decide_eq_true_eq, ← hm i]
      exact ⟨fun z => z.elim id (fun e => e ▸ hSk), .inl⟩, hb, hf, by rw [if_pos hSk]; exact hn, hr, hl⟩
    rw [hSk] at q
    exact q
  | none =>
    dsimp only
    have hnk : k ∉ es.toList.map keyS := fun z => by
      obtain ⟨e, he, q⟩ := (good_mem (P := P) (w := w) g k).1 z
      have c := List.findIdx?_eq_none_iff.mp hfi e he
      rw [q] at c
      cases c
    have hSk : S k = false := by
      cases q : S k with
      | false => rfl
      | true => exact absurd ((hm k).1 q) hnk
    have hgw : ∀ (b : Bool) {s₁ : Shared} {Q' : Unit → Shared → Prop}, Q' () s₁ → wpAny (model P w) A (match b with | true => rule "set.scan.the-table-gave-way" | false => pure ()) Q' E s₁ :=
      fun b s₁ Q' q => by cases b <;> first | exact wpAny_pure q | exact wpAny_rule q
    have pm := layNew_perm t es ((strKind P w).hash k) (.str k tk)
    have hf1 := layNew_fits t es ((strKind P w).hash k) (.str k tk)
    have hr1 := layNew_ris t es ((strKind P w).hash k) (.str k tk) hr
    have hl1 := layNew_led t es ((strKind P w).hash k) (.str k tk)
    generalize layNew t es ((strKind P w).hash k) (.str k tk) = Z at pm hf1 hr1 hl1 ⊢
    obtain ⟨es1, t1, wasDummy, gave⟩ := Z
    dsimp only at pm hf1 hr1 hl1 ⊢
    rw [Array.toList_push] at pm
    have pc : es1.toList.Perm (((strKind P w).hash k, Value.str k tk) :: es.toList) := pm.trans (List.perm_append_singleton _ _)
    have pk : (es1.toList.map keyS).Perm (k :: es.toList.map keyS) := pc.map keyS
    have g1 : ∀ e ∈ es1.toList, GoodS w e := fun e he => by
      rcases List.mem_cons.mp (pc.mem_iff.mp he) with z | z
      · rw [z]; exact ⟨k, tk, rfl, rfl⟩
      · exact g e z
    have nd1 : (es1.toList.map keyS).Nodup := pk.nodup_iff.mpr (List.nodup_cons.mpr ⟨hnk, nd⟩)
    have m1 : ∀ i, (S i || decide (i = k)) = true ↔ i ∈ es1.toList.map keyS := fun i => by
      rw [Bool.or_eq_true, decide_eq_true_eq, hm i, pk.mem_iff, List.mem_cons]
      exact Or.comm
    have hsz : es1.size = n + 1 := by rw [← Array.length_toList, pc.length_eq, List.length_cons, Array.length_toList, hn]
    have hb1 : es1.size < scanBound := by rw [hsz]; exact room
    have hled : w.params.followText "set-order" = true ∨ t1.led = true := hl.imp id fun z => by rw [hl1]; exact z
    have fin : ∀ h', Heap.SameBut a s.heap h' → SetS w h' a (fun j => S j || decide (j = k)) es1.size → Q true { s with heap := h' } := fun h' sb r => by
      have q := hQ h' sb
      rw [hSk] at q
      rw [hsz] at r
      exact q r
    refine wpAny_bind (hgw _ ?_)
    split
    · refine wpAny_bind ?_
      rw [hashByValue_scannable 8 hsc]
      refine wpAny_pure ?_
      refine setS_add_tail ?_ ho hex hd g1 nd1 m1 hb1 ?_ ?_ ?_ ?_
      · intro b s₁ Q' q; cases b <;> first | exact wpAny_pure q | exact wpAny_rule q
      · first | (split <;> first | exact hf1 | exact SetTable.fits_plain_off hf1) | exact hf1
      · first | (split <;> exact hr1) | exact hr1
      · first | (split <;> exact hled) | exact hled
      · intro h' sb r; dsimp only; exact wpAny_pure (fin h' sb r)
    · refine wpAny_bind (wpAny_pure ?_)
      simp only [↓reduceIte]
      refine setS_add_tail ?_ ho hex hd g1 nd1 m1 hb1 hf1 hr1 hled ?_
      · intro b s₁ Q' q; cases b <;> first | exact wpAny_pure q | exact wpAny_rule q
      · intro h' sb r; dsimp only; exact wpAny_pure (fin h' sb r)

end
theorem setS_new_at {w : World} {h : Heap} {a : Addr} {ns : List Str} (ho : h.get? a = some { cls := .type "set", dict := none, data := .set #[] 0 (.fresh 0 0 (!w.params.followText "set-order")) }) : SetS w h a (fun j => decide (j ∈ ns.take 0)) 0 :=
  ⟨_, #[], 0, _, ho, ⟨rfl, rfl, rfl⟩, rfl, (fun e he => nomatch he), List.Pairwise.nil, (fun k => ⟨fun z => by rw [List.take_zero] at z; exact absurd (of_decide_eq_true z) List.not_mem_nil, fun z => nomatch z⟩), (by decide), (by rfl), rfl, List.Pairwise.nil, by
    show _ ∨ (!w.params.followText "set-order") = true
    cases w.params.followText "set-order"
    · exact .inr rfl
    · exact .inl rfl⟩
section
variable {P : Program} {w : World} {A : Around} {E : Value → Shared → Prop} {s : Shared}
theorem set_update_strs {I : Addr} {fp wr : List Addr} {G : Array GenState → Array GenState → Prop} {n : Nat} {Pv : Nat → Value → Prop} {St : Nat → Shared → Prop} {R : Result → Shared → Prop}
    (W : WalksS P w A.in1 I fp wr G n Pv St) (S : Addr) (hSf : S ∉ fp) (ns : List Str) (hn : n = ns.length) (hb : ns.length + 1 < scanBound) (hval : ∀ i v, Pv i v → ∃ k t, ns[i]? = some k ∧ v = .str k t) :
    ∀ (k i : Nat) (s : Shared), n - i = k → i ≤ n → St i s → (∃ c, c ≤ i ∧ SetS w s.heap S (fun j => decide (j ∈ ns.take i)) c) →
      (∀ s' c, Moved (S :: wr) G s s' → c ≤ n → SetS w s'.heap S (fun j => decide (j ∈ ns)) c → R (.ok (.ret .none)) s') →
      codeAny (model P w) A (.builtin "set.update.loop" ⟨[.ref S, .ref I], []⟩) R s := by
  have hSw : S ∉ wr := fun h => hSf (W.sub _ h)
  have hsub : ∀ b ∈ wr, b ∈ S :: wr := fun b hb => List.mem_cons_of_mem _ hb
  intro k
  induction k with
  | zero =>
    intro i s hk' hi hst ⟨c, hc, hS⟩ hR
    have hin : i = n := by omega
    subst hin
    refine codeAny_builtin F.entry_set_update_loop ?_
    rw [Around.under_plainId F.plain_set_update_loop _]
    show wpAny _ A.in1 (pyNext (.ref I) >>= _) _ _ s
    refine wpAny_bind (W.done s _ _ hst fun s' hm => ?_)
    show wpAny _ A.in1 (ret Value.none) _ _ s'
    have e : ns.take i = ns := List.take_of_length_le (by omega)
    rw [e] at hS
    exact wpAny_pure (hR s' c (hm.mono hsub) hc (hS.at fun o e => hm.heap S o hSw e))
  | succ k ih =>
    intro i s hk' hi hst ⟨c, hc, hS⟩ hR
    have hlt : i < n := by omega
    refine codeAny_builtin F.entry_set_update_loop ?_
    rw [Around.under_plainId F.plain_set_update_loop _]
    show wpAny _ A.in1 (pyNext (.ref I) >>= _) _ _ s
    refine wpAny_bind (W.item i s _ _ hlt hst fun v s' hP hst' hm => ?_)
    obtain ⟨z, t, hz, rfl⟩ := hval i v hP
    have hS' : SetS w s'.heap S (fun j => decide (j ∈ ns.take i)) c := hS.at fun o e => hm.heap S o hSw e
    show wpAny _ A.in1 (holding [Value.str z t] (setAdd S (.str z t)) >>= _) _ _ s'
    refine wpAny_bind (wpAny_holding ?_)
    unfold setAdd
    refine wpAny_holding ?_
    refine wpAny_bind ((strKind P w).pyHash (k := z) (strKind_is _ _ _ _) ?_)
    refine setS_add_hashed (s := { s' with toks := s'.toks + 1 }) hS' (by omega) fun h' hsb hS2 => ?_
    have hS3 : SetS w h' S (fun j => decide (j ∈ ns.take (i + 1))) (if decide (z ∈ ns.take i) = true then c else c + 1) := hS2.congr fun j => by
      rw [List.take_add_one, hz, Bool.eq_iff_iff, Bool.or_eq_true, decide_eq_true_eq, decide_eq_true_eq, decide_eq_true_eq, List.mem_append]
      exact ⟨fun q => q.elim .inl fun q => .inr (List.mem_singleton.mp q), fun q => q.elim .inl fun q => .inr (List.mem_singleton.mpr q)⟩
    have hc3 : (if decide (z ∈ ns.take i) = true then c else c + 1) ≤ i + 1 := by
      split <;> omega
    refine wpAny_pure ⟨plainId_quiet F.plain_set_update_loop _, ih (i + 1) _ (by omega) hlt (W.frame _ s' _ _ hst' (Nat.le_succ _) fun b hb o e => ?_) ⟨_, hc3, hS3⟩ fun s'' c2 hm'' hc'' hS'' => ?_⟩
    · rw [hsb.2 b (fun h : b = S => hSf (by rw [← h]; exact hb))]; exact e
    · refine hR s'' c2 (Moved.trans W.gtrans ((hm.mono hsub).then_heap (Nat.le_succ _) fun b o hb e => ?_) hm'') hc'' hS''
      rw [hsb.2 b (fun h : b = S => hb (by rw [h]; exact List.mem_cons_self))]; exact e

theorem str_at : ∀ {vs : List Value} {ns : List Str}, StrsAre vs ns → ∀ (i : Nat) (v : Value), i < ns.length → vs[i]? = some v → ∃ k t, ns[i]? = some k ∧ v = .str k t
  | _, _, .nil, i, v, hi, hv => by simp at hv
  | _, _, .cons y k r, 0, v, hi, hv => by
    cases hv
    exact ⟨y, k, rfl, rfl⟩
  | _, _, .cons y k r, i + 1, v, hi, hv => by
    obtain ⟨k', t', h1, h2⟩ := str_at r i v (by simpa using hi) (by simpa using hv)
    exact ⟨k', t', by simpa using h1, h2⟩
theorem strs_length : ∀ {vs : List Value} {ns : List Str}, StrsAre vs ns → vs.length = ns.length
  | _, _, .nil => rfl
  | _, _, .cons y k r => by simp [strs_length r]
end
end ZS
set_option Elab.async false
set_option linter.all false
set_option maxRecDepth 100000
set_option maxHeartbeats 4000000
/-! ZS: set(..) of a list or a tuple of texts, sorted of it. -/
namespace ZS
open PySem PySem.Spec PyProof.Rows L2 HT
section
variable {P : Program} {w : World} {A : Around} {E : Value → Shared → Prop} {s : Shared}
set_option maxHeartbeats 3200000 in
theorem call_set_lstS {l : Addr} {items : Array Value} (ns : List Str) {Q : Value → Shared → Prop} (hh : A.handled = none) (hl : s.heap.IsList l items) (hit : StrsAre items.toList ns) (hb : ns.length + 1 < scanBound)
    (h : ∀ (h' : Heap) (tk c : Nat), SetS w h' s.heap.objs.size (fun j => decide (j ∈ ns)) c → c ≤ ns.length → (∀ b o, s.heap.get? b = some o → h'.get? b = some o) → Q (.ref s.heap.objs.size) { s with heap := h', toks := tk }) :
    wpAny (model P w) A (call (.type "set") [.ref l]) Q E s := by
  have hisz : items.size = ns.length := by
    have q := strs_length hit
    rw [Array.length_toList] at q
    exact q
  obtain ⟨c, tl, hmro⟩ := F.called_set.mro
  have hmade := F.called_set.made
  have hsub := F.called_set.sub
  refine wpAny_call (codeAny_of_tree ?_)
  show wpAny _ _ (callAny (.type "set") _) _ _ _
  refine wpAny_pure ⟨Code.quiet_builtin _ (by decide +kernel), codeAny_builtin F.entry_type_call ?_⟩
  rw [Around.under_plain (weight_type_call_type "set" [.ref l] []) rfl]
  have h1 := F.called_set.notType
  have h2 := F.called_set.canCreate
  have hct := F.typeCall_set_1 (.ref l)
  repeat (any_goals (first | assumption | wp_step))

  refine codeAny_mono (code_set_led1 (.ref l) (E := E) (Q₁ := fun obj s₁ => obj = .ref s.heap.objs.size ∧ s₁ = { s with heap := s.heap.push { cls := .type "set", dict := none, data := .set #[] 0 (.fresh 0 0 (!w.params.followText "set-order")) } }) ⟨rfl, rfl⟩) fun r s₁ hr => ?_
  cases r with
  | error e => exact hr
  | ok fl =>
    cases fl with
    | ret obj =>
      obtain ⟨rfl, rfl⟩ := hr
      have hS : (s.heap.push { cls := .type "set", dict := none, data := .set #[] 0 (.fresh 0 0 (!w.params.followText "set-order")) }).get? s.heap.objs.size = some { cls := .type "set", dict := none, data := .set #[] 0 (.fresh 0 0 (!w.params.followText "set-order")) } := Heap.get?_push_size _ rfl
      have hT : Shared.TypeIs { s with heap := s.heap.push { cls := .type "set", dict := none, data := .set #[] 0 (.fresh 0 0 (!w.params.followText "set-order")) } } (.ref s.heap.objs.size) "set" := ⟨_, hS, rfl⟩
      have hli := F.called_set.init.lookup
      have hbi := F.called_set.init.bind (.ref s.heap.objs.size)
      repeat (any_goals (first | assumption | wp_step))

      refine codeAny_mono (codeAny_call_builtin (R := wants (fun r s₂ => r = .none ∧ ∃ h' tk c, s₂ = { s with heap := h', toks := tk } ∧ SetS w h' s.heap.objs.size (fun j => decide (j ∈ ns)) c ∧ c ≤ ns.length ∧
          (∀ b o, s.heap.get? b = some o → h'.get? b = some o)) E) F.called_set.init.plain F.entry_set_init (check_set_init_1 hT ?_)) fun r₂ s₂ hr₂ => ?_
      · obtain ⟨ol, hol, hcl, nl, hdl⟩ := hl
        obtain ⟨ocls, odict, odata, oslots⟩ := ol
        simp only at hcl hdl
        subst hcl; subst hdl
        have hol' : (s.heap.push { cls := .type "set", dict := none, data := .set #[] 0 (.fresh 0 0 (!w.params.followText "set-order")) }).get? l = some { cls := .type "list", dict := odict, data := .seq items nl, slots := oslots } := Heap.get?_push_of_some _ hol
        have hsls := F.sub_list_set
        have hslf := F.sub_list_frozenset
        have hne : (Value.type "list" == Value.type "dict") = false := by decide
        have hl1 : (s.heap.push { cls := .type "set", dict := none, data := .set #[] 0 (.fresh 0 0 (!w.params.followText "set-order")) }).IsList l items := ⟨_, hol', rfl, nl, rfl⟩
        unfold Builtin.«set.__init__» noKeywords Builtin.Frozenset.updateFrom
        generalize hPI : pyIter = PI
        wp_walk
        subst hPI

        refine wpAny_pyIter_list hl1 ?_
        refine wpAny_bind (wpAny_runValue ?_)
        have hlS : l < s.heap.objs.size := Heap.lt_size hol
        have hh3 : A.in1.in1.in1.handled = none := by simp [hh]
        have hz1 : (s.heap.push { cls := .type "set", dict := none, data := .set #[] 0 (.fresh 0 0 (!w.params.followText "set-order")) }).objs.size = s.heap.objs.size + 1 := Heap.size_push ..
        have hneI : l ≠ (s.heap.push { cls := .type "set", dict := none, data := .set #[] 0 (.fresh 0 0 (!w.params.followText "set-order")) }).objs.size := by
          rw [Heap.size_push]; exact Nat.ne_of_lt (Nat.lt_succ_of_lt hlS)
        have hSf : s.heap.objs.size ∉ [(s.heap.push { cls := .type "set", dict := none, data := .set #[] 0 (.fresh 0 0 (!w.params.followText "set-order")) }).objs.size, l] := by
          rw [Heap.size_push]; simp only [List.mem_cons, List.mem_singleton, List.not_mem_nil, or_false, not_or]
          exact ⟨Nat.ne_of_lt (Nat.lt_succ_self _), Nat.ne_of_gt hlS⟩
        have hval : ∀ (i : Nat) (v : Value), items[i]? = some v → ∃ k t, ns[i]? = some k ∧ v = .str k t := fun i v hv => by
          have hi : i < ns.length := by rw [← hisz]; exact (Array.getElem?_eq_some_iff.mp hv).1
          exact str_at hit i v hi (by rw [Array.getElem?_toList]; exact hv)
        refine set_update_strs ((PySem.Walks.list hh3 _ l hneI items).toS) s.heap.objs.size
          hSf ns hisz hb hval (items.size - 0) 0 _ (by omega) (Nat.zero_le _)
          ⟨⟨_, Heap.get?_push_size _ rfl, rfl, rfl⟩, (hl1.push _)⟩ ?hS0 ?hR
        case hS0 =>
          have hget : ((s.heap.push { cls := .type "set", dict := none, data := .set #[] 0 (.fresh 0 0 (!w.params.followText "set-order")) }).push { cls := .type "list_iterator", data := .fields #[.ref l, .int 0 0] }).get? s.heap.objs.size
              = some { cls := .type "set", dict := none, data := .set #[] 0 (.fresh 0 0 (!w.params.followText "set-order")) } := Heap.get?_push_of_some _ hS
          exact ⟨0, Nat.le_refl 0, setS_new_at hget⟩
        case hR =>
          intro s' c' hm hc' hS'
          obtain ⟨h', g2, d', tk', os'⟩ := s'
          have eg : g2 = s.gens := hm.gens
          have ed : d' = s.drawn := hm.drawn
          have eo : os' = s.os := hm.os
          subst eg; subst ed; subst eo
          show wpAny _ _ _ _ _ _
          refine wpAny_pure ?_
          show wpAny _ _ (ret Value.none) _ _ _
          rw [hisz] at hc'
          refine wpAny_pure ⟨rfl, h', tk', c', rfl, hS', hc', fun b o e => ?_⟩
          have hb0 : b < s.heap.objs.size := Heap.lt_size e
          have hb1 : b ≠ s.heap.objs.size := Nat.ne_of_lt hb0
          have hb2 : b ≠ (s.heap.push { cls := .type "set", dict := none, data := .set #[] 0 (.fresh 0 0 (!w.params.followText "set-order")) }).objs.size := by
            rw [Heap.size_push]; exact Nat.ne_of_lt (Nat.lt_succ_of_lt hb0)
          exact hm.heap b o (by simp only [List.mem_cons, List.mem_singleton, List.not_mem_nil, or_false, not_or]; exact ⟨hb1, hb2⟩) (Heap.get?_push_of_some _ (Heap.get?_push_of_some _ e))

      · cases r₂ with
        | error e => exact hr₂
        | ok fl₂ =>
          cases fl₂ with
          | ret r =>
            obtain ⟨rfl, h', tk, c', rfl, hS', hc', hk'⟩ := hr₂
            repeat (any_goals (first | assumption | wp_step))
            exact h _ _ _ hS' hc' hk'
          | _ => exact hr₂.elim
    | _ => exact hr.elim
end
end ZS
set_option Elab.async false
set_option linter.all false
set_option maxRecDepth 100000
set_option maxHeartbeats 4000000
/-! ZS: set(..) of a list or a tuple of texts, sorted of it. -/
namespace ZS
open PySem PySem.Spec PyProof.Rows L2 HT
section
variable {P : Program} {w : World} {A : Around} {E : Value → Shared → Prop} {s : Shared}
set_option maxHeartbeats 3200000 in
theorem call_set_tupS {l : Addr} {items : Array Value} (ns : List Str) {Q : Value → Shared → Prop} (hh : A.handled = none) (hl : s.heap.IsTuple l items) (hit : StrsAre items.toList ns) (hb : ns.length + 1 < scanBound)
    (h : ∀ (h' : Heap) (tk c : Nat), SetS w h' s.heap.objs.size (fun j => decide (j ∈ ns)) c → c ≤ ns.length → (∀ b o, s.heap.get? b = some o → h'.get? b = some o) → Q (.ref s.heap.objs.size) { s with heap := h', toks := tk }) :
    wpAny (model P w) A (call (.type "set") [.ref l]) Q E s := by
  have hisz : items.size = ns.length := by
    have q := strs_length hit
    rw [Array.length_toList] at q
    exact q
  obtain ⟨c, tl, hmro⟩ := F.called_set.mro
  have hmade := F.called_set.made
  have hsub := F.called_set.sub
  refine wpAny_call (codeAny_of_tree ?_)
  show wpAny _ _ (callAny (.type "set") _) _ _ _
  refine wpAny_pure ⟨Code.quiet_builtin _ (by decide +kernel), codeAny_builtin F.entry_type_call ?_⟩
  rw [Around.under_plain (weight_type_call_type "set" [.ref l] []) rfl]
  have h1 := F.called_set.notType
  have h2 := F.called_set.canCreate
  have hct := F.typeCall_set_1 (.ref l)
  repeat (any_goals (first | assumption | wp_step))

  refine codeAny_mono (code_set_led1 (.ref l) (E := E) (Q₁ := fun obj s₁ => obj = .ref s.heap.objs.size ∧ s₁ = { s with heap := s.heap.push { cls := .type "set", dict := none, data := .set #[] 0 (.fresh 0 0 (!w.params.followText "set-order")) } }) ⟨rfl, rfl⟩) fun r s₁ hr => ?_
  cases r with
  | error e => exact hr
  | ok fl =>
    cases fl with
    | ret obj =>
      obtain ⟨rfl, rfl⟩ := hr
      have hS : (s.heap.push { cls := .type "set", dict := none, data := .set #[] 0 (.fresh 0 0 (!w.params.followText "set-order")) }).get? s.heap.objs.size = some { cls := .type "set", dict := none, data := .set #[] 0 (.fresh 0 0 (!w.params.followText "set-order")) } := Heap.get?_push_size _ rfl
      have hT : Shared.TypeIs { s with heap := s.heap.push { cls := .type "set", dict := none, data := .set #[] 0 (.fresh 0 0 (!w.params.followText "set-order")) } } (.ref s.heap.objs.size) "set" := ⟨_, hS, rfl⟩
      have hli := F.called_set.init.lookup
      have hbi := F.called_set.init.bind (.ref s.heap.objs.size)
      repeat (any_goals (first | assumption | wp_step))

      refine codeAny_mono (codeAny_call_builtin (R := wants (fun r s₂ => r = .none ∧ ∃ h' tk c, s₂ = { s with heap := h', toks := tk } ∧ SetS w h' s.heap.objs.size (fun j => decide (j ∈ ns)) c ∧ c ≤ ns.length ∧
          (∀ b o, s.heap.get? b = some o → h'.get? b = some o)) E) F.called_set.init.plain F.entry_set_init (check_set_init_1 hT ?_)) fun r₂ s₂ hr₂ => ?_
      · obtain ⟨ol, hol, hcl, nl, hdl⟩ := hl
        obtain ⟨ocls, odict, odata, oslots⟩ := ol
        simp only at hcl hdl
        subst hcl; subst hdl
        have hol' : (s.heap.push { cls := .type "set", dict := none, data := .set #[] 0 (.fresh 0 0 (!w.params.followText "set-order")) }).get? l = some { cls := .type "tuple", dict := odict, data := .seq items nl, slots := oslots } := Heap.get?_push_of_some _ hol
        have hsls := F.sub_tuple_set
        have hslf := F.sub_tuple_frozenset
        have hne : (Value.type "tuple" == Value.type "dict") = false := by decide
        have hl1 : (s.heap.push { cls := .type "set", dict := none, data := .set #[] 0 (.fresh 0 0 (!w.params.followText "set-order")) }).IsTuple l items := ⟨_, hol', rfl, nl, rfl⟩
        unfold Builtin.«set.__init__» noKeywords Builtin.Frozenset.updateFrom
        generalize hPI : pyIter = PI
        wp_walk
        subst hPI

        refine wpAny_pyIter_tuple hl1 ?_
        refine wpAny_bind (wpAny_runValue ?_)
        have hlS : l < s.heap.objs.size := Heap.lt_size hol
        have hh3 : A.in1.in1.in1.handled = none := by simp [hh]
        have hz1 : (s.heap.push { cls := .type "set", dict := none, data := .set #[] 0 (.fresh 0 0 (!w.params.followText "set-order")) }).objs.size = s.heap.objs.size + 1 := Heap.size_push ..
        have hneI : l ≠ (s.heap.push { cls := .type "set", dict := none, data := .set #[] 0 (.fresh 0 0 (!w.params.followText "set-order")) }).objs.size := by
          rw [Heap.size_push]; exact Nat.ne_of_lt (Nat.lt_succ_of_lt hlS)
        have hSf : s.heap.objs.size ∉ [(s.heap.push { cls := .type "set", dict := none, data := .set #[] 0 (.fresh 0 0 (!w.params.followText "set-order")) }).objs.size, l] := by
          rw [Heap.size_push]; simp only [List.mem_cons, List.mem_singleton, List.not_mem_nil, or_false, not_or]
          exact ⟨Nat.ne_of_lt (Nat.lt_succ_self _), Nat.ne_of_gt hlS⟩
        have hval : ∀ (i : Nat) (v : Value), items[i]? = some v → ∃ k t, ns[i]? = some k ∧ v = .str k t := fun i v hv => by
          have hi : i < ns.length := by rw [← hisz]; exact (Array.getElem?_eq_some_iff.mp hv).1
          exact str_at hit i v hi (by rw [Array.getElem?_toList]; exact hv)
        refine set_update_strs ((PySem.Walks.tuple hh3 _ l hneI items).toS) s.heap.objs.size
          hSf ns hisz hb hval (items.size - 0) 0 _ (by omega) (Nat.zero_le _)
          ⟨⟨_, Heap.get?_push_size _ rfl, rfl, rfl⟩, (hl1.push _)⟩ ?hS0 ?hR
        case hS0 =>
          have hget : ((s.heap.push { cls := .type "set", dict := none, data := .set #[] 0 (.fresh 0 0 (!w.params.followText "set-order")) }).push { cls := .type "tuple_iterator", data := .fields #[.ref l, .int 0 0] }).get? s.heap.objs.size
              = some { cls := .type "set", dict := none, data := .set #[] 0 (.fresh 0 0 (!w.params.followText "set-order")) } := Heap.get?_push_of_some _ hS
          exact ⟨0, Nat.le_refl 0, setS_new_at hget⟩
        case hR =>
          intro s' c' hm hc' hS'
          obtain ⟨h', g2, d', tk', os'⟩ := s'
          have eg : g2 = s.gens := hm.gens
          have ed : d' = s.drawn := hm.drawn
          have eo : os' = s.os := hm.os
          subst eg; subst ed; subst eo
          show wpAny _ _ _ _ _ _
          refine wpAny_pure ?_
          show wpAny _ _ (ret Value.none) _ _ _
          rw [hisz] at hc'
          refine wpAny_pure ⟨rfl, h', tk', c', rfl, hS', hc', fun b o e => ?_⟩
          have hb0 : b < s.heap.objs.size := Heap.lt_size e
          have hb1 : b ≠ s.heap.objs.size := Nat.ne_of_lt hb0
          have hb2 : b ≠ (s.heap.push { cls := .type "set", dict := none, data := .set #[] 0 (.fresh 0 0 (!w.params.followText "set-order")) }).objs.size := by
            rw [Heap.size_push]; exact Nat.ne_of_lt (Nat.lt_succ_of_lt hb0)
          exact hm.heap b o (by simp only [List.mem_cons, List.mem_singleton, List.not_mem_nil, or_false, not_or]; exact ⟨hb1, hb2⟩) (Heap.get?_push_of_some _ (Heap.get?_push_of_some _ e))

      · cases r₂ with
        | error e => exact hr₂
        | ok fl₂ =>
          cases fl₂ with
          | ret r =>
            obtain ⟨rfl, h', tk, c', rfl, hS', hc', hk'⟩ := hr₂
            repeat (any_goals (first | assumption | wp_step))
            exact h _ _ _ hS' hc' hk'
          | _ => exact hr₂.elim
    | _ => exact hr.elim
end
end ZS
set_option Elab.async false
set_option linter.all false
set_option maxRecDepth 100000
set_option maxHeartbeats 4000000
/-! ZS: set(..) of a list or a tuple of texts, sorted of it. -/
namespace ZS
open PySem PySem.Spec PyProof.Rows L2 HT
section
variable {P : Program} {w : World} {A : Around} {E : Value → Shared → Prop} {s : Shared}
theorem strs_of : ∀ (l : List Value), (∀ v ∈ l, ∃ k tk, v = Value.str k tk) → StrsAre l (l.map fun v => keyS (0, v))
  | [], _ => .nil
  | v :: r, h => by
    obtain ⟨k, tk, rfl⟩ := h v List.mem_cons_self
    exact .cons k tk (strs_of r fun u hu => h u (List.mem_cons_of_mem _ hu))
theorem sorted_setS {S : Str → Bool} {n : Nat} {a : Addr} {Q : Value → Shared → Prop} (R : SetS w s.heap a S n) (hh : A.handled = none) (h64 : n < 64)
    (hQ : ∀ s' p (out : Array Value) (c : Nat) (ns : List Str), (∀ b o, s.heap.get? b = some o → s'.heap.get? b = some o) → s'.gens = s.gens → s'.os = s.os → s.heap.objs.size ≤ p →
      s'.heap.get? p = some (seqObj "list" out c) → StrsAre out.toList ns → sortedS ns = true → ns.Nodup → (∀ k, k ∈ ns ↔ S k = true) → ns.length = n → Q (.ref p) s') :
    wpAny (model P w) A (call (.builtin "sorted") [.ref a]) Q E s := by
  obtain ⟨o, es, ep, t, ho, hex, hd, g, nd, hm, hb, hf, hn, hr, hl⟩ := R
  refine Calls.call_function_entry kind_sorted plain_sorted entry_sorted (args_sorted1 _) ?_
  unfold Builtin.«sorted»
  refine wpAny_bind (m := checkCount "sorted" 1 1 _) (wpAny_pure ?_)
  refine wpAny_bind (collect_set (A := A.in1) hh ⟨o, ho, hex.1, hd⟩ hf hb hr hl fun s1 vs k1 hz g1 o1 pm => ?_)
  have hvl : vs.length = n := by rw [pm.length_eq, List.length_map, Array.length_toList]; exact hn
  have hS : StrsAre vs (vs.map fun v => keyS (0, v)) := strs_of vs fun v hv => by
    obtain ⟨e, he, q⟩ := List.mem_map.mp (pm.mem_iff.mp hv)
    obtain ⟨k, tk, h1, _⟩ := g e he
    exact ⟨k, tk, by rw [← q]; exact h1⟩
  have pk : (vs.map fun v => keyS (0, v)).Perm (es.toList.map keyS) := by
    have q := pm.map fun v => keyS (0, v)
    rw [List.map_map] at q
    exact q
  refine wpAny_bind (wpAny_newList ?_ (by rw [hvl, sizeLine_eq]; omega))
  have hoL : (s1.heap.push (seqObj "list" vs.toArray 0)).get? s1.heap.objs.size = some (seqObj "list" vs.toArray 0) := Heap.get?_push_size _ rfl
  refine wpAny_bind (wpAny_holding (wpAny_call_entry slot_list_sort ⟨_, hoL, rfl⟩ entry_list_sort (list_sort_treeK strKind_oneLt hoL hS.keysOf (fun v₁ v₂ rest e => keyKind_strs (by rw [← e]; exact hS)) (by rw [hvl]; exact h64) fun st' hp hs => ⟨_, rfl, ?_⟩) (args_list_sort _)))
  obtain ⟨ns', a1, a2, a3⟩ := sorted_out_str hS hp hs
  obtain ⟨c, hc⟩ := sortedHeap_at (vs := vs) (out := ((arrOf st').map (·.2))) hoL
  have pn : ns'.Perm (es.toList.map keyS) := a2.trans pk
  refine wpAny_pure ⟨_, rfl, hQ _ s1.heap.objs.size _ c ns' (fun b u e => ?_) g1 o1 hz hc a1 a3 (pn.nodup_iff.mpr nd) (fun k => by rw [pn.mem_iff, ← hm k]) ?_⟩
  · have q := k1 b u e
    have hlt := Heap.lt_size q
    show (sortedHeap (s1.heap.push (seqObj "list" vs.toArray 0)) s1.heap.objs.size vs _).get? b = some u
    rw [sortedHeap_old (Nat.ne_of_lt hlt) (by rw [size_push']; exact Nat.lt_succ_of_lt hlt)]
    exact Heap.get?_push_of_some _ q
  · rw [pn.length_eq, List.length_map, Array.length_toList]; exact hn
end
end ZS
set_option Elab.async false
set_option linter.all false
set_option maxRecDepth 100000
set_option maxHeartbeats 2000000
/-! DL26: sorted(set(..)) of ints or texts. -/
namespace DL
open PySem L2
open ZT (PT)
section
variable {X : Cx} {W : WX}
def SetSO (w : World) (a : Addr) (S : Str → Bool) (n : Nat) : HO := .ext fun h => ZS.SetS w h a S n
theorem setSO_new {w : World} {P : Program} {H : Hp} {h : Heap} {a : Addr} {S : Str → Bool} {n : Nat} (R : ZS.SetS w h a S n) : ObjOk P w H h a (SetSO w a S n) := by
  have ⟨o, _, _, _, ho, _⟩ := R
  exact ⟨R, ⟨o, ho⟩, fun h1 h2 p k => ZS.SetS.at p k⟩
def rSetS (K : Fg) (w : World) : List V → Hp → VK → Prop := fun xs H Q => ∃ (l : Addr) (ns : List Str), xs = [V.ref l] ∧ (SqL K H l (ns.map V.str) ∨ SqT K H l (ns.map V.str)) ∧ ns.length + 1 < scanBound ∧ ∀ (p : Addr) (c : Nat), H p = none → c ≤ ns.length → Q (.ref p) (L2.upd H p (SetSO w p (fun j => decide (j ∈ ns)) c))
theorem cr_setS (hc : X.calm = true) : CallR X (.type "set") (rSetS X.K X.w) := by
  intro pins s σ H xs us Q I r h
  obtain ⟨l, ns, rfl, hq, hb, q⟩ := h
  obtain ⟨u, rfl, ru⟩ := r.one
  cases ru
  have hd := I.ok.hd hc
  have fin : ∀ (h' : Heap) (tk c : Nat), ZS.SetS X.w h' s.heap.objs.size (fun j => decide (j ∈ ns)) c → c ≤ ns.length → (∀ b o, s.heap.get? b = some o → h'.get? b = some o) → EP X pins σ Q (.ref s.heap.objs.size) { s with heap := h', toks := tk } := fun h' tk c R1 hcn k =>
    ⟨.ref s.heap.objs.size, L2.upd H s.heap.objs.size (SetSO X.w s.heap.objs.size (fun j => decide (j ∈ ns)) c), I.laid k (Nat.le_refl _) (setSO_new R1), rfl, q _ c (I.hok.fresh (Nat.le_refl _)) hcn⟩
  rcases hq with hq | hq
  · obtain ⟨its, rv, pl, hz⟩ := I.list hq
    exact ZS.call_set_lstS ns hd pl.isList rv.strs hb fin
  · obtain ⟨its, rv, pt, hz⟩ := I.tuple hq
    exact ZS.call_set_tupS ns hd (show s.heap.IsTuple l its.toArray from pt) rv.strs hb fin
def rSortedSetS (w : World) : List V → Hp → VK → Prop := fun vs H Q => ∃ (a : Addr) (S : Str → Bool) (n : Nat), vs = [V.ref a] ∧ H a = some (SetSO w a S n) ∧ n < 64 ∧
  ∀ (ns : List Str) (p : Addr), PyProof.Rows.sortedS ns = true → ns.Nodup → (∀ k : Str, k ∈ ns ↔ S k = true) → ns.length = n → H p = none → Q (.ref p) (L2.upd H p (.lst (ns.map V.str)))
theorem cr_sortedSetS (hc : X.calm = true) : CallR X (.builtin "sorted") (rSortedSetS X.w) := by
  intro pins s σ H vs us Q I r h
  obtain ⟨a, S, n, rfl, ha, h64, q⟩ := h
  have R : ZS.SetS X.w s.heap a S n := (I.hok a _ ha).1
  rw [Vals.ref1 r]
  refine ZS.sorted_setS R (I.ok.hd hc) h64 fun s' p out c ns k g o hp hg hi hs nd hm hl => ?_
  have hlen : (ns.map V.str).length ≤ sizeLine := by rw [List.length_map, hl, sizeLine_eq]; omega
  have hn : H p = none := I.hok.fresh hp
  have J : Inv X pins σ (L2.upd H p (.lst (ns.map V.str))) { s with heap := s'.heap, gens := s'.gens, drawn := s'.drawn, toks := s'.toks } :=
    I.call (ch := []) (Un.laid k hp hn) (I.hok.laid k hp ⟨hlen, out.toList, c, vals_of_strs hi, hg⟩) (by rw [g]; exact I.bare) (fun _ z => nomatch z)
  have e : s' = { s with heap := s'.heap, gens := s'.gens, drawn := s'.drawn, toks := s'.toks } := by
    cases s'
    cases s
    cases o
    rfl
  rw [e]
  exact ⟨.ref p, _, J, rfl, q ns p hs nd hm hl hn⟩
/-! by data -/
def riseS (xs : List Str) : List Str := sortS xs.eraseDups
theorem nodup_eraseDupsS : ∀ (n : Nat) (ns : List Str), ns.length ≤ n → ns.eraseDups.Nodup
  | 0, ns, h => by
    have e : ns = [] := List.length_eq_zero_iff.mp (by omega)
    rw [e, List.eraseDups_nil]
    exact List.nodup_nil
  | n + 1, [], _ => by rw [List.eraseDups_nil]; exact List.nodup_nil
  | n + 1, k :: r, h => by
    rw [List.eraseDups_cons]
    refine List.nodup_cons.mpr ⟨fun m => ?_, nodup_eraseDupsS n _ (Nat.le_trans (List.length_filter_le _ _) (by simpa using h))⟩
    have := List.mem_filter.mp (List.mem_eraseDups.mp m)
    simp at this
theorem riseS_eq {xs ms : List Str} (s : PyProof.Rows.sortedS ms = true) (nd : ms.Nodup) (k : ∀ i, i ∈ ms ↔ i ∈ xs) : ms = riseS xs :=
  sortS_only ((List.perm_ext_iff_of_nodup nd (nodup_eraseDupsS _ xs (Nat.le_refl _))).mpr fun a => (k a).trans List.mem_eraseDups.symm) s
def srtSetP (ds : List PD) : Option (List PD) := if ds.length < 64 then (match intsOf ds with
  | some ns => some ((riseI ns).map PyData.int)
  | none => (match unS ds with
    | some xs => some ((riseS xs).map PyData.str)
    | none => none)) else none
def mSrtSetA (m : EnvM → Bag → Res PD) : EnvM → Bag → Res PD := fun env B => (m env B).bind fun d B1 => match d with
  | .list ds => (match srtSetP ds with
    | some r => .ok (.list r) B1
    | none => .bad)
  | .tuple ds => (match srtSetP ds with
    | some r => .ok (.list r) B1
    | none => .bad)
  | _ => .bad
abbrev rSetA (K : Fg) (w : World) : List V → Hp → VK → Prop := fun xs H Q => rSetI K w xs H Q ∨ rSetS K w xs H Q
abbrev rSrtA (w : World) : List V → Hp → VK → Prop := fun xs H Q => rSortedSet w xs H Q ∨ rSortedSetS w xs H Q
theorem callR_or2 {v : Value} {r1 r2 : List V → Hp → VK → Prop} (h1 : CallR X v r1) (h2 : CallR X v r2) : CallR X v (fun xs H Q => r1 xs H Q ∨ r2 xs H Q) := by
  intro pins s σ H xs us Q I r h
  rcases h with h | h
  · exact h1 pins s σ H xs us Q I r h
  · exact h2 pins s σ H xs us Q I r h
def tSrtSetA (K : Fg) (w : World) (t : TE) : TE := tCB (rSrtA w) (tCons (tCB (rSetA K w) (tCons t tNil)) tNil)
theorem ed_srtSetA (K : Fg) (w : World) {e : Expr} {t : TE} {m : EnvM → Bag → Res PD} {p p2 pos pos2 : Pos} (hc : X.calm = true) (hm : X.mg "sorted" = none) (hm2 : X.mg "set" = none) (he : ED X W e t m) (hg : Gl X "sorted" := by rfl) (hg2 : Gl X "set" := by rfl)
    (h1 : starEach [.Call (.Name "set" p2) [e] [] pos2] X.env = (false, eval (.Call (.Name "set" p2) [e] [] pos2) X.env) :: starEach [] X.env := by rfl) (hpl : (backTo pos (starEach [] X.env)).any (·.1) = false := by rfl)
    (h2 : starEach [e] X.env = (false, eval e X.env) :: starEach [] X.env := by rfl) (hpl2 : (backTo pos2 (starEach [] X.env)).any (·.1) = false := by rfl) (hK : X.K = K := by rfl) (hw : X.w = w := by rfl) :
    ED X W (.Call (.Name "sorted" p) [.Call (.Name "set" p2) [e] [] pos2] [] pos) (tSrtSetA K w t) (mSrtSetA m) := by
  subst hK hw
  refine ⟨pe_callB (callR_or2 (cr_sortedSet hc) (cr_sortedSetS hc)) hg hm (by decide +kernel) (pa_cons (pe_callTy (callR_or2 (cr_setI hc) (cr_setS hc)) hg2 hm2 (by decide +kernel) (pa_cons he.pe pa_nil h2) (by decide) (by decide) h2 hpl2) pa_nil h1) (by decide) (by decide) h1 hpl, fun w G0 H0 σ env G H B Q R h => ?_⟩
  refine he.sem w G0 H0 σ env G H B _ R (PostR.bind h fun d B1 v G1 H1 s1 o1 d1 h1 => ?_)
  have goI : ∀ (l : Addr) (ns : List Int), v = .ref l → (SqL X.K H1 l (ns.map V.int) ∨ SqT X.K H1 l (ns.map V.int)) → ns.length < 64 → PostE X.K X.mg w G1 H1 (.ok (.list ((riseI ns).map PyData.int)) B1) Q (fun c d H' => W c d σ H') → rSetA X.K X.w [v] H1 (fun x H2 => rSrtA X.w [x] H2 Q) := by
    intro l ns e1 hq hl h2
    subst e1
    refine .inl ⟨l, ns, rfl, hq, by unfold scanBound; omega, fun p c hp hcn => .inl ⟨p, _, c, rfl, upd_same, by omega, fun ms q hms hk hlen hq' => ?_⟩⟩
    have e2 : ms = riseI ns := rise_eq hms fun i => by rw [hk i]; simp
    subst e2
    have s2 : Step w G1 H1 G1 (L2.upd H1 p (SetO X.w p (fun j => decide (j ∈ ns)) c)) := Step.newH hp
    have o2 := o1.newH (o := SetO X.w p (fun j => decide (j ∈ ns)) c) hp
    exact h2 _ _ _ (s2.trans (Step.new o2.sub hq')) (o2.new hq') (.lst upd_same (DRs.ints _))
  have goS : ∀ (l : Addr) (ns : List Str), v = .ref l → (SqL X.K H1 l (ns.map V.str) ∨ SqT X.K H1 l (ns.map V.str)) → ns.length < 64 → PostE X.K X.mg w G1 H1 (.ok (.list ((riseS ns).map PyData.str)) B1) Q (fun c d H' => W c d σ H') → rSetA X.K X.w [v] H1 (fun x H2 => rSrtA X.w [x] H2 Q) := by
    intro l ns e1 hq hl h2
    subst e1
    refine .inr ⟨l, ns, rfl, hq, by unfold scanBound; omega, fun p c hp hcn => .inr ⟨p, _, c, rfl, upd_same, by omega, fun ms q hms nd hk hlen hq' => ?_⟩⟩
    have e2 : ms = riseS ns := riseS_eq hms nd fun i => by rw [hk i]; simp
    subst e2
    have s2 : Step w G1 H1 G1 (L2.upd H1 p (SetSO X.w p (fun j => decide (j ∈ ns)) c)) := Step.newH hp
    have o2 := o1.newH (o := SetSO X.w p (fun j => decide (j ∈ ns)) c) hp
    exact h2 _ _ _ (s2.trans (Step.new o2.sub hq')) (o2.new hq') (.lst upd_same (DRs.strs _))
  have go : ∀ (l : Addr) (vs : List V) (ds : List PD), v = .ref l → (SqL X.K H1 l vs ∨ SqT X.K H1 l vs) → DRs X.K G1 vs ds → PostE X.K X.mg w G1 H1 (match srtSetP ds with | some r => .ok (.list r) B1 | none => .bad) Q (fun c d H' => W c d σ H') → rSetA X.K X.w [v] H1 (fun x H2 => rSrtA X.w [x] H2 Q) := by
    intro l vs ds e1 hq r h2
    unfold srtSetP at h2
    by_cases hl : ds.length < 64
    · rw [if_pos hl] at h2
      cases ei : intsOf ds with
      | some ns =>
        rw [ei] at h2
        have ed := intsOf_eq ei
        subst ed
        have ev := r.of_ints
        subst ev
        exact goI l ns e1 hq (by simpa using hl) h2
      | none =>
        rw [ei] at h2
        cases es : unS ds with
        | none => rw [es] at h2; exact h2.elim
        | some xs =>
          rw [es] at h2
          have ed := unS_eq es
          subst ed
          have ev := r.of_strs
          subst ev
          exact goS l xs e1 hq (by simpa using hl) h2
    · rw [if_neg hl] at h2; exact h2.elim
  cases d with
  | list ds =>
    cases d1 with
    | lst hx r => exact go _ _ _ rfl (.inl (subL o1.sub hx)) r h1
  | tuple ds =>
    cases d1 with
    | tup hx r => exact go _ _ _ rfl (.inr (subT o1.sub hx)) r h1
  | _ => exact (show False from h1).elim
end
end DL
set_option Elab.async false
set_option linter.all false
set_option maxRecDepth 100000
set_option maxHeartbeats 4000000
/-! DL27: sorted of a list of ints or of texts; x, y = a, b and x, y, z = a, b, c where a target may be captured, or a list of one's own. -/
namespace DL
open PySem L2 PySem.Spec PyProof.Rows
open ZT (PT)
section
variable {X : Cx} {W : WX}
def sortedAP : List PD → Option PD := fun ds => match sortedP ds with
  | some z => some z
  | none => sortedSP ds
abbrev rSortedA (K : Fg) : List V → Hp → VK → Prop := fun xs H Q => rSortedI K xs H Q ∨ rSortedS K xs H Q
theorem cr_sortedA : CallR X (.builtin "sorted") (rSortedA X.K) := callR_or2 cr_sortedI cr_sortedS
theorem ca_sortedA : CaD X (rSortedA X.K) sortedAP := by
  intro w G H B vs ds z Q o r hz k
  unfold sortedAP at hz
  cases e : sortedP ds with
  | some z' =>
    rw [e] at hz
    cases hz
    exact .inl (ca_sorted w G H B vs ds _ Q o r e k)
  | none =>
    rw [e] at hz
    exact .inr (ca_sortedS w G H B vs ds _ Q o r hz k)
/-- x, y = a, b : the targets are names of any kind -/
theorem sd_par2T (K : Fg) (i j : Nat) {x y : Str} {a b : Expr} {t t2 : TE} {m m2 : EnvM → Bag → Res SV} {px py pt pos : Pos} {kt k2 pt2} (hc : X.calm = true) (hN : X.N.Nodup) (ha : MD X W a t m) (hb : MD X W b t2 m2) (hi : X.N[i]? = some x := by rfl) (hj : X.N[j]? = some y := by rfl)
    (hx : Loc X.env.scope x := by first | exact Or.inl rfl | exact Or.inr rfl) (hy : Loc X.env.scope y := by first | exact Or.inl rfl | exact Or.inr rfl)
    (fx : X.fn x = true ∨ X.env.scope.names.lookup x = some .local := by first | exact .inl rfl | exact .inr rfl) (fy : X.fn y = true ∨ X.env.scope.names.lookup y = some .local := by first | exact .inl rfl | exact .inr rfl)
    (hs1 : starEach [a, b] X.env = (false, eval a X.env) :: starEach [b] X.env := by rfl) (hs2 : starEach [b] X.env = (false, eval b X.env) :: starEach [] X.env := by rfl)
    (h1 : (assignEach [.Name x px, .Name y py] X.env).map (·.2) = assign (.Name x px) X.env :: (assignEach [.Name y py] X.env).map (·.2) := by rfl) (h2 : (assignEach [.Name y py] X.env).map (·.2) = assign (.Name y py) X.env :: (assignEach [] X.env).map (·.2) := by rfl)
    (hl : (assignEach [.Name x px, .Name y py] X.env).length = 2 := by rfl) (hf : (assignEach [.Name x px, .Name y py] X.env).findIdx? (·.1) = none := by rfl)
    (hw : swappedStores [.Tuple [.Name x px, .Name y py] kt pt] (.Tuple [a, b] k2 pt2) X.env = pure none := by rfl)
    (hs : swapsWithSole [.Tuple [.Name x px, .Name y py] kt pt] (.Tuple [a, b] k2 pt2) pos.line X.env = pure false := by rfl)
    (ho : (assignEach [.Tuple [.Name x px, .Name y py] kt pt] X.env).map (·.2) = [assign (.Tuple [.Name x px, .Name y py] kt pt) X.env] := by rfl) (hK : X.K = K := by rfl) :
    SD X W (.Assign [.Tuple [.Name x px, .Name y py] kt pt] (.Tuple [a, b] k2 pt2) pos) (tAsg (ZT.tTupP (tCons t (tCons t2 tNil))) (gTup K 2 (gCons (gName i) (gCons (gName j) gNil)))) (mParM i j m m2) := by
  subst hK
  refine ⟨ps_asg (ZT.pe_tupP (pa_cons ha.pe (pa_cons hb.pe pa_nil hs2) hs1)) (pg_tup hc (pgs_cons (pg_name hN hi hx fx) (pgs_cons (pg_name hN hj hy fy) pgs_nil h2) h1) hl hf) hs hw ho, fun w G0 H0 σ env G H B D R h => ?_⟩
  refine ha.sem w G0 H0 σ env G H B _ R (PostS.bindM R (Sub.refl _) h fun sv B1 v G1 H1 s1 o1 d1 h1 => ?_)
  have R1 := R.step s1 o1
  refine hb.sem w G0 H0 σ env G1 H1 B1 _ R1 (PostS.bindM R1 s1.exG h1 fun sv2 B2 v2 G2 H2 s2 o2 d2 h2 => ?_)
  refine ⟨(by decide : 2 ≤ sizeLine), fun p ob hp hd => ⟨p, _, rfl, .inl ?_, rfl, v, _, rfl, v2, _, rfl, rfl, ?_⟩⟩
  · exact .inr ⟨ob, upd_same⟩
  · exact h2 _ G2 _ (((R.setSV s1 o1 i d1).setSV s2 o2 j d2).step (Step.newH hp) (o2.newH hp)) (Sub.trans s1.exG s2.exG)
def mParM3 (i j k : Nat) (m m2 m3 : EnvM → Bag → Res SV) : EnvM → Bag → SRes := fun env B => (m env B).s env fun sv B1 => (m2 env B1).s env fun sv2 B2 => (m3 env B2).s env fun sv3 B3 => .nx (((env.set i (some sv)).set j (some sv2)).set k (some sv3)) B3
/-- x, y, z = a, b, c -/
theorem sd_par3T (K : Fg) (i j k : Nat) {x y z : Str} {a b c : Expr} {t t2 t3 : TE} {m m2 m3 : EnvM → Bag → Res SV} {px py pz pt pos : Pos} {kt k2 pt2} (hc : X.calm = true) (hN : X.N.Nodup) (ha : MD X W a t m) (hb : MD X W b t2 m2) (hd : MD X W c t3 m3) (hi : X.N[i]? = some x := by rfl) (hj : X.N[j]? = some y := by rfl) (hk : X.N[k]? = some z := by rfl)
    (hx : Loc X.env.scope x := by first | exact Or.inl rfl | exact Or.inr rfl) (hy : Loc X.env.scope y := by first | exact Or.inl rfl | exact Or.inr rfl) (hz : Loc X.env.scope z := by first | exact Or.inl rfl | exact Or.inr rfl)
    (fx : X.fn x = true ∨ X.env.scope.names.lookup x = some .local := by first | exact .inl rfl | exact .inr rfl) (fy : X.fn y = true ∨ X.env.scope.names.lookup y = some .local := by first | exact .inl rfl | exact .inr rfl) (fz : X.fn z = true ∨ X.env.scope.names.lookup z = some .local := by first | exact .inl rfl | exact .inr rfl)
    (hs1 : starEach [a, b, c] X.env = (false, eval a X.env) :: starEach [b, c] X.env := by rfl) (hs2 : starEach [b, c] X.env = (false, eval b X.env) :: starEach [c] X.env := by rfl) (hs3 : starEach [c] X.env = (false, eval c X.env) :: starEach [] X.env := by rfl)
    (h1 : (assignEach [.Name x px, .Name y py, .Name z pz] X.env).map (·.2) = assign (.Name x px) X.env :: (assignEach [.Name y py, .Name z pz] X.env).map (·.2) := by rfl) (h2 : (assignEach [.Name y py, .Name z pz] X.env).map (·.2) = assign (.Name y py) X.env :: (assignEach [.Name z pz] X.env).map (·.2) := by rfl) (h3 : (assignEach [.Name z pz] X.env).map (·.2) = assign (.Name z pz) X.env :: (assignEach [] X.env).map (·.2) := by rfl)
    (hl : (assignEach [.Name x px, .Name y py, .Name z pz] X.env).length = 3 := by rfl) (hf : (assignEach [.Name x px, .Name y py, .Name z pz] X.env).findIdx? (·.1) = none := by rfl)
    (hw : swappedStores [.Tuple [.Name x px, .Name y py, .Name z pz] kt pt] (.Tuple [a, b, c] k2 pt2) X.env = pure none := by rfl)
    (hs : swapsWithSole [.Tuple [.Name x px, .Name y py, .Name z pz] kt pt] (.Tuple [a, b, c] k2 pt2) pos.line X.env = pure false := by rfl)
    (ho : (assignEach [.Tuple [.Name x px, .Name y py, .Name z pz] kt pt] X.env).map (·.2) = [assign (.Tuple [.Name x px, .Name y py, .Name z pz] kt pt) X.env] := by rfl) (hK : X.K = K := by rfl) :
    SD X W (.Assign [.Tuple [.Name x px, .Name y py, .Name z pz] kt pt] (.Tuple [a, b, c] k2 pt2) pos) (tAsg (ZT.tTupP (tCons t (tCons t2 (tCons t3 tNil)))) (gTup K 3 (gCons (gName i) (gCons (gName j) (gCons (gName k) gNil))))) (mParM3 i j k m m2 m3) := by
  subst hK
  refine ⟨ps_asg (ZT.pe_tupP (pa_cons ha.pe (pa_cons hb.pe (pa_cons hd.pe pa_nil hs3) hs2) hs1)) (pg_tup hc (pgs_cons (pg_name hN hi hx fx) (pgs_cons (pg_name hN hj hy fy) (pgs_cons (pg_name hN hk hz fz) pgs_nil h3) h2) h1) hl hf) hs hw ho, fun w G0 H0 σ env G H B D R h => ?_⟩
  refine ha.sem w G0 H0 σ env G H B _ R (PostS.bindM R (Sub.refl _) h fun sv B1 v G1 H1 s1 o1 d1 h1 => ?_)
  have R1 := R.step s1 o1
  refine hb.sem w G0 H0 σ env G1 H1 B1 _ R1 (PostS.bindM R1 s1.exG h1 fun sv2 B2 v2 G2 H2 s2 o2 d2 h2 => ?_)
  have R2 := R1.step s2 o2
  refine hd.sem w G0 H0 σ env G2 H2 B2 _ R2 (PostS.bindM R2 (Sub.trans s1.exG s2.exG) h2 fun sv3 B3 v3 G3 H3 s3 o3 d3 h3 => ?_)
  refine ⟨(by decide : 3 ≤ sizeLine), fun p ob hp hd => ⟨p, _, rfl, .inl ?_, rfl, v, _, rfl, v2, _, rfl, v3, _, rfl, rfl, ?_⟩⟩
  · exact .inr ⟨ob, upd_same⟩
  · exact h3 _ G3 _ ((((R.setSV s1 o1 i d1).setSV s2 o2 j d2).setSV s3 o3 k d3).step (Step.newH hp) (o3.newH hp)) (Sub.trans (Sub.trans s1.exG s2.exG) s3.exG)
theorem un65 {k : Nat} {A : Around} (r : Room k A) : A.units + 65 < cLine := by have := r.un; omega
/-- x, y, z = a, b, c with plain local names: stored from the right (along the kit's ps_par) -/
def tPar3 (i j k : Nat) (ta : TA) : TS := fun D σ H => ta σ H fun vs H1 => ∃ v w u, vs = [v, w, u] ∧ D.nx (((σ.set i (some v)).set j (some w)).set k (some u)) H1
theorem ps_par3 {i j k : Nat} {x y z : Str} {a b c : Expr} {ta : TA} {px py pz pt : Pos} {kt k2 pt2} {pos : Pos} (hc : X.calm = true) (hN : X.N.Nodup) (hi : X.N[i]? = some x) (hj : X.N[j]? = some y) (hk : X.N[k]? = some z) (hij : i ≠ j) (hik : i ≠ k) (hjk : j ≠ k)
    (hx : X.env.scope.names.lookup x = some .local) (hy : X.env.scope.names.lookup y = some .local) (hz : X.env.scope.names.lookup z = some .local) (ha : PA X [a, b, c] ta)
    (hw : swappedStores [.Tuple [.Name x px, .Name y py, .Name z pz] kt pt] (.Tuple [a, b, c] k2 pt2) X.env = pure (some [x, y, z]))
    (hs : swapsWithSole [.Tuple [.Name x px, .Name y py, .Name z pz] kt pt] (.Tuple [a, b, c] k2 pt2) pos.line X.env = pure false := by rfl) :
    PS X (.Assign [.Tuple [.Name x px, .Name y py, .Name z pz] kt pt] (.Tuple [a, b, c] k2 pt2) pos) (tPar3 i j k ta) := by
  refine ⟨fun pins s σ H D I h => ?_⟩
  rw [exec_Assign_arm]
  refine wpAny_bind (wpAny_standAt ?_)
  rw [hs]
  refine wpAny_bind (wpAny_pure ?_)
  rw [if_neg (by decide)]
  refine wpAny_bind (PyProof.Rows.Tuple_ (thn (ha.run _ pins s σ H _ I h) fun us s1 ⟨vs, H1, I1, r1, q1⟩ => ?_))
  obtain ⟨v, w, u, e1, q1⟩ := q1
  subst e1
  obtain ⟨u1, u2, u3, rfl, rv, rw', ru⟩ : ∃ u1 u2 u3, us = [u1, u2, u3] ∧ RelV v u1 ∧ RelV w u2 ∧ RelV u u3 := by
    cases r1 with
    | cons p q =>
      cases q with
      | cons p' q' =>
        cases q' with
        | cons p2 q2 =>
          cases q2
          exact ⟨_, _, _, rfl, p, p', p2⟩
  refine wpAny_newObj_type ?_ (by show 3 ≤ sizeLine; decide)
  have I2 : Inv X pins σ H1 { s1 with heap := s1.heap.push { cls := .type "tuple", data := .seq [u1, u2, u3].toArray } } := I1.kept (t' := s1.toks) fun b o e => Heap.get?_push_of_some _ e
  rw [hw]
  refine wpAny_bind (wpAny_pure ?_)
  show wpAny (model X.prog X.w) X.A (do rule "assign.swapped-stores"; let items ← unpackItems (.ref s1.heap.objs.size) 3 none; assignInOrder [fun v => bindName X.env z v, fun v => bindName X.env y v, fun v => bindName X.env x v] items.reverse; pure Flow.next) _ _ _
  refine wpAny_bind (wpAny_rule (wpAny_bind (unpackItems_tuple (items := #[u1, u2, u3]) (I.ok.hd hc) (IsTup.new s1.heap _) fun h' hx' => ?_)))
  have I3 := I2.kept (h' := h') (t' := s1.toks) fun b o e => hx' b o (Nat.ne_of_lt (Heap.lt_size e)) e
  show wpAny _ _ (assignInOrder [fun v => bindName X.env z v, fun v => bindName X.env y v, fun v => bindName X.env x v] [u3, u2, u1] >>= fun _ => pure Flow.next) _ _ _
  refine wpAny_bind (assignInOrder_cons (wpAny_bindName (store_ok I3 hN hk (.inl hz) ru (fun s2 I4 => ?_) (.inr hz))))
  refine assignInOrder_cons (wpAny_bindName (store_ok I4 hN hj (.inl hy) rw' (fun s3 I5 => ?_) (.inr hy)))
  refine assignInOrder_cons (wpAny_bindName (store_ok I5 hN hi (.inl hx) rv (fun s4 I6 => assignInOrder_nil (wpAny_pure ?_)) (.inr hx)))
  rw [List.set_comm _ _ (Ne.symm hjk), List.set_comm _ _ (Ne.symm hik), List.set_comm _ _ (Ne.symm hij)] at I6
  exact ⟨_, H1, I6, q1⟩
theorem sd_par3 (i j k : Nat) {x y z : Str} {a b c : Expr} {t t2 t3 : TE} {m m2 m3 : EnvM → Bag → Res SV} {px py pz pt pos : Pos} {kt k2 pt2} (hc : X.calm = true) (hN : X.N.Nodup) (ha : MD X W a t m) (hb : MD X W b t2 m2) (hd : MD X W c t3 m3) (hi : X.N[i]? = some x := by rfl) (hj : X.N[j]? = some y := by rfl) (hk : X.N[k]? = some z := by rfl) (hij : i ≠ j := by decide) (hik : i ≠ k := by decide) (hjk : j ≠ k := by decide)
    (hx : X.env.scope.names.lookup x = some .local := by rfl) (hy : X.env.scope.names.lookup y = some .local := by rfl) (hz : X.env.scope.names.lookup z = some .local := by rfl)
    (hs1 : starEach [a, b, c] X.env = (false, eval a X.env) :: starEach [b, c] X.env := by rfl) (hs2 : starEach [b, c] X.env = (false, eval b X.env) :: starEach [c] X.env := by rfl) (hs3 : starEach [c] X.env = (false, eval c X.env) :: starEach [] X.env := by rfl)
    (hw : swappedStores [.Tuple [.Name x px, .Name y py, .Name z pz] kt pt] (.Tuple [a, b, c] k2 pt2) X.env = pure (some [x, y, z]) := by rfl)
    (hs : swapsWithSole [.Tuple [.Name x px, .Name y py, .Name z pz] kt pt] (.Tuple [a, b, c] k2 pt2) pos.line X.env = pure false := by rfl) :
    SD X W (.Assign [.Tuple [.Name x px, .Name y py, .Name z pz] kt pt] (.Tuple [a, b, c] k2 pt2) pos) (tPar3 i j k (tCons t (tCons t2 (tCons t3 tNil)))) (mParM3 i j k m m2 m3) := by
  refine ⟨ps_par3 hc hN hi hj hk hij hik hjk hx hy hz (pa_cons ha.pe (pa_cons hb.pe (pa_cons hd.pe pa_nil hs3) hs2) hs1) hw hs, fun w G0 H0 σ env G H B D R h => ?_⟩
  refine ha.sem w G0 H0 σ env G H B _ R (PostS.bindM R (Sub.refl _) h fun sv B1 v G1 H1 s1 o1 d1 h1 => ?_)
  have R1 := R.step s1 o1
  refine hb.sem w G0 H0 σ env G1 H1 B1 _ R1 (PostS.bindM R1 s1.exG h1 fun sv2 B2 v2 G2 H2 s2 o2 d2 h2 => ?_)
  have R2 := R1.step s2 o2
  refine hd.sem w G0 H0 σ env G2 H2 B2 _ R2 (PostS.bindM R2 (Sub.trans s1.exG s2.exG) h2 fun sv3 B3 v3 G3 H3 s3 o3 d3 h3 => ?_)
  exact ⟨_, _, _, rfl, h3 _ G3 H3 (((R.setSV s1 o1 i d1).setSV s2 o2 j d2).setSV s3 o3 k d3) (Sub.trans (Sub.trans s1.exG s2.exG) s3.exG)⟩
def mhNil : List (Str × PD) → Option (List PD) := fun _ => some []
def mhStr (x : Str) (m : List (Str × PD) → Option (List PD)) : List (Str × PD) → Option (List PD) := fun as => (m as).map fun ds => .str x :: ds
def mhBy (f : Str) (m : List (Str × PD) → Option (List PD)) : List (Str × PD) → Option (List PD) := fun as => match as.lookup f with
  | some d => (m as).map fun ds => d :: ds
  | none => none
theorem hd_nilM {i : Nat} {C : Addr} : HD X i C [] (fun _ _ _ => tNil) mhNil := hd_nil
theorem hd_strM {i : Nat} {C : Addr} {x : Str} {j : Nat} {p : Pos} {es : List Expr} {t : Addr → Value → Option Addr → TA} {m : List (Str × PD) → Option (List PD)} (h : HD X i C es t m) (hs : ∀ (a : Addr) (pn : List (Addr × Obj)), starEach (.Constant (.str x) j p :: es) (X.suite a pn).env = (false, eval (.Constant (.str x) j p) (X.suite a pn).env) :: starEach es (X.suite a pn).env := by exact fun _ _ => rfl) :
    HD X i C (.Constant (.str x) j p :: es) (fun a cls d => tCons (tC (.str x)) (t a cls d)) (mhStr x m) := hd_str h hs
theorem hd_byM {i : Nat} {C : Addr} {f n : Str} {p p2 : Pos} {es : List Expr} {t : Addr → Value → Option Addr → TA} {m : List (Str × PD) → Option (List PD)} (hga : PySem.W.findIn X.K (.ref C) "__getattribute__" = some (some (.builtin "BaseException.__getattribute__"))) (hgg : PySem.W.findIn X.K (.ref C) "__getattr__" = some none)
    (hex : PySem.W.subIn X.K (.ref C) (.type "BaseException") = some true) (hdC : PySem.W.hasDictIn X.K C = true) (hno : PySem.W.findIn X.K (.ref C) f = some none) (h : HD X i C es t m) (hN : X.N[i]? = some n := by rfl) (hv : Vis X.env.scope n := by first | exact Or.inl rfl | exact Or.inr (Or.inl rfl) | exact Or.inr (Or.inr rfl))
    (hd : (n == ("__debug__" : Str)) = false := by decide) (hcd : (n == ("__classdict__" : Str)) = false := by decide) (hb : attributeBase (.Name n p) f X.env (eval (.Name n p) X.env) = eval (.Name n p) X.env := by rfl)
    (hs : starEach (.Attribute (.Name n p) f p2 :: es) X.env = (false, eval (.Attribute (.Name n p) f p2) X.env) :: starEach es X.env := by rfl) :
    HD X i C (.Attribute (.Name n p) f p2 :: es) (fun a cls d => tCons (tBy C f a cls d (tVarL X.N.length i)) (t a cls d)) (mhBy f m) := hd_by hga hgg hex hdC hno h hN hv hd hcd hb hs
end
end DL
set_option Elab.async false
set_option linter.all false
set_option maxRecDepth 100000
set_option maxHeartbeats 4000000
/-! DL28: len(set(e)), e a list of ints, repeated ones too. -/
namespace DL
open PySem L2
theorem firstMet_add (ns : List Int) : ∀ k, k ≤ ns.length → PyProof.Rows.firstMet (fun i => ns.getD i 0) k = (ns.take k).foldl addK []
  | 0, _ => by rw [List.take_zero]; rfl
  | k + 1, h => by
    have ih := firstMet_add ns k (by omega)
    have hk : k < ns.length := by omega
    rw [PyProof.Rows.firstMet_succ, ih, List.take_add_one, List.getElem?_eq_getElem hk, Option.toList_some, List.foldl_append]
    have e : ns.getD k 0 = ns[k] := by simp [List.getD, List.getElem?_eq_getElem hk]
    show PyProof.Rows.step_dedup _ (ns.getD k 0) = _
    rw [e]
    unfold PyProof.Rows.step_dedup
    show _ = addK ((ns.take k).foldl addK []) ns[k]
    unfold addK
    by_cases c : ns[k] ∈ (ns.take k).foldl (fun l k => if k ∈ l then l else l ++ [k]) []
    · rw [if_pos c, if_pos (by rw [List.any_eq_true]; exact ⟨_, c, by simp⟩)]
    · rw [if_neg c, if_neg (by rw [List.any_eq_true]; rintro ⟨x, hx, e2⟩; have : x = ns[k] := by simpa using e2
                               exact c (this ▸ hx))]
section
variable {X : Cx} {W : WX}
def tLenSetD (K : Fg) (ta : TE) : TE := fun σ H Q => ta σ H fun x H1 => ∃ (l : Addr) (ns : List Int), x = .ref l ∧ SqL K H1 l (ns.map V.int) ∧ ns.length ≤ 4000 ∧ Q (.int ((dedupK ns).length : Nat)) H1
theorem pe_lenSetD {a : Expr} {ta : TE} {p p2 q pos : Pos} (hg : Gl X "len") (hm : X.mg "len" = none) (hg2 : Gl X "set") (hm2 : X.mg "set" = none) (ha : PE X a ta) (hc : X.calm = true := by rfl)
    (na : starEach [a] X.env = (false, eval a X.env) :: starEach [] X.env := by rfl) : PE X (.Call (.Name "len" p) [.Call (.Name "set" p2) [a] [] q] [] pos) (tLenSetD X.K ta) := by
  refine ⟨fun pins s σ H Q I h => ?_⟩
  refine PyProof.Rows.Call_ (ld_blt I hg hm PySem.boot_len ?_)
  refine PyProof.Rows.callWith_builtin1 (PyProof.Rows.args_cons ?_ rfl) rfl rfl
  refine PyProof.Rows.Call_ (ld_blt I hg2 hm2 PyProof.Rows.boot_set ?_)
  refine PyProof.Rows.callWith_type1 (PyProof.Rows.args_cons (thn (ha.run pins s σ H _ I h) fun v s1 ⟨x, H1, I1, r1, q1⟩ => PyProof.Rows.args_nil ?_) na) na rfl
  obtain ⟨l, ns, rfl, hq, hl, q1⟩ := q1
  cases r1
  obtain ⟨its, r, pl, hz⟩ := I1.list hq
  have hlen : its.toArray.size = ns.length := by rw [List.size_toArray, ← r.length, List.length_map]
  refine call_set_list (I1.ok.hd hc) pl.isList (by simpa using RZ.intsAre_vals r) (by rw [hlen]; unfold scanBound; omega) fun h' tk hS hk => ?_
  refine PyProof.Rows.args_nil ?_
  rw [hlen, firstMet_add ns ns.length (Nat.le_refl _), List.take_length] at hS
  obtain ⟨o, es, ep, t, ho, hex, hd, _, _, _, hf, hn⟩ := hS
  have I2 : Inv X pins σ H1 { s1 with heap := h', toks := tk } := I1.kept fun b o e => hk b o (Heap.lt_size e) e
  have b := dedupK_len ns
  exact call_len_set ho hex hd hf (by rw [hn]; show ((dedupK ns).length : Int) < 2 ^ 63; omega) ⟨.int (dedupK ns).length, H1, I2.tok _, ⟨_, by rw [hn]; rfl⟩, q1⟩
def mLenSetI (m : EnvM → Bag → Res PD) : EnvM → Bag → Res PD := fun env B => (m env B).bind fun d B1 => match d with
  | .list ds => (match unI ds with
    | some ns => if ns.length ≤ 4000 then .ok (.int ((dedupK ns).length : Int)) B1 else .bad
    | none => .bad)
  | _ => .bad
theorem ed_lenSetI (K : Fg) {e : Expr} {t : TE} {m : EnvM → Bag → Res PD} {p p2 q pos : Pos} (hm : X.mg "len" = none) (hm2 : X.mg "set" = none) (he : ED X W e t m) (hg : Gl X "len" := by rfl) (hg2 : Gl X "set" := by rfl) (hc : X.calm = true := by rfl)
    (na : starEach [e] X.env = (false, eval e X.env) :: starEach [] X.env := by rfl) (hK : X.K = K := by rfl) : ED X W (.Call (.Name "len" p) [.Call (.Name "set" p2) [e] [] q] [] pos) (tLenSetD K t) (mLenSetI m) := by
  subst hK
  refine ⟨pe_lenSetD hg hm hg2 hm2 he.pe hc na, fun w G0 H0 σ env G H B Q R h => ?_⟩
  refine he.sem w G0 H0 σ env G H B _ R (PostR.bind h fun d B1 v G1 H1 s1 o1 d1 h1 => ?_)
  cases d with
  | list ds =>
    cases e1 : unI ds with
    | none => simp only [e1] at h1; exact h1.elim
    | some ns =>
      simp only [e1] at h1
      by_cases hl : ns.length ≤ 4000
      · rw [if_pos hl] at h1
        rw [unI_eq e1] at d1
        cases d1 with
        | lst hx q =>
          have e2 := q.of_ints
          subst e2
          exact ⟨_, ns, rfl, subL o1.sub hx, hl, h1 _ G1 H1 Step.refl o1 (.int _)⟩
      · rw [if_neg hl] at h1; exact h1.elim
  | _ => exact (show False from h1).elim
end
end DL
set_option Elab.async false
set_option linter.all false
set_option maxRecDepth 100000
set_option maxHeartbeats 4000000
/-! DL29: for x, y in zip(a, b): two lists or two tuples of one length. -/
namespace DL
open PySem L2
open ZT (PT)
def pairP (ds es : List PD) : List PD := List.zipWith (fun x y => .tuple [x, y]) ds es
theorem pairP_get {ds es : List PD} {i : Nat} {d : PD} (h : (pairP ds es)[i]? = some d) : ∃ x y, ds[i]? = some x ∧ es[i]? = some y ∧ d = .tuple [x, y] := by
  unfold pairP at h
  rw [List.getElem?_zipWith] at h
  cases e1 : ds[i]? with
  | none => rw [e1] at h; cases h
  | some x =>
    cases e2 : es[i]? with
    | none => rw [e1, e2] at h; cases h
    | some y => rw [e1, e2] at h; cases h; exact ⟨x, y, rfl, rfl, rfl⟩
theorem Walks.zipL {K : Fg} {G : Hp} {a b : Addr} {vs us : List V} {ds es : List PD} (h : G a = some (.lst vs)) (h' : G b = some (.lst us)) (r : DRs K G vs ds) (r' : DRs K G us es) : Walks K false (Itz K a b) G (pairP ds es) where
  go := fun i H d hs e => by
    obtain ⟨x, y, h1, h2, _⟩ := pairP_get e
    obtain ⟨v, k1, _⟩ := r.get h1
    obtain ⟨u, k2, _⟩ := r'.get h2
    exact ⟨vs, us, v, u, subL hs h, subL hs h', k1, k2⟩
  yld := fun i w G' H B x H' d o hs e y => by
    obtain ⟨x1, y1, h1, h2, rfl⟩ := pairP_get e
    obtain ⟨v, k1, d1⟩ := r.get h1
    obtain ⟨u, k2, d2⟩ := r'.get h2
    obtain ⟨T, x', y', e1, hT, e2, q, q'⟩ := y
    have h5 := q vs (subL o.sub (hs _ _ h))
    have h6 := q' us (subL o.sub (hs _ _ h'))
    rw [k1] at h5
    rw [k2] at h6
    cases h5
    cases h6
    subst e1 e2
    have sb : Sub G (upd G' T (.tup [v, u])) := Sub.trans hs (sub_upd (o.free hT))
    exact ⟨upd G' T (.tup [v, u]), Step.new o.sub hT, o.new hT, .inr ⟨T, _, _, rfl, rfl, SqT.of upd_same, .cons (d1.mono sb) (.cons (d2.mono sb) .nil)⟩⟩
  stop := fun i H hs e => ⟨vs, us, subL hs h, subL hs h', by
    unfold pairP at e
    rw [List.length_zipWith] at e
    rw [r.length, r'.length]; omega⟩
theorem Walks.zipT {K : Fg} {G : Hp} {a b : Addr} {vs us : List V} {ds es : List PD} (h : PT K G a vs) (h' : PT K G b us) (r : DRs K G vs ds) (r' : DRs K G us es) : Walks K false (RZ.ItzT K a b) G (pairP ds es) where
  go := fun i H d hs e => by
    obtain ⟨x, y, h1, h2, _⟩ := pairP_get e
    obtain ⟨v, k1, _⟩ := r.get h1
    obtain ⟨u, k2, _⟩ := r'.get h2
    exact ⟨vs, us, v, u, subT hs h, subT hs h', k1, k2⟩
  yld := fun i w G' H B x H' d o hs e y => by
    obtain ⟨x1, y1, h1, h2, rfl⟩ := pairP_get e
    obtain ⟨v, k1, d1⟩ := r.get h1
    obtain ⟨u, k2, d2⟩ := r'.get h2
    obtain ⟨T, x', y', e1, hT, e2, q, q'⟩ := y
    have h5 := q vs (subT o.sub (sbPT hs h))
    have h6 := q' us (subT o.sub (sbPT hs h'))
    rw [k1] at h5
    rw [k2] at h6
    cases h5
    cases h6
    subst e1 e2
    have sb : Sub G (upd G' T (.tup [v, u])) := Sub.trans hs (sub_upd (o.free hT))
    exact ⟨upd G' T (.tup [v, u]), Step.new o.sub hT, o.new hT, .inr ⟨T, _, _, rfl, rfl, SqT.of upd_same, .cons (d1.mono sb) (.cons (d2.mono sb) .nil)⟩⟩
  stop := fun i H hs e => ⟨vs, us, subT hs h, subT hs h', by
    unfold pairP at e
    rw [List.length_zipWith] at e
    rw [r.length, r'.length]; omega⟩
def mZip (m : EnvM → Bag → Res (List SV)) : EnvM → Bag → Res (List PD) := fun env B => (m env B).bind fun ss B1 => match unD ss with
  | some [.list ds, .list es] => .ok (pairP ds es) B1
  | some [.tuple ds, .tuple es] => .ok (pairP ds es) B1
  | _ => .bad
theorem wi_zip {X : Cx} {W : WX} (K : Fg) {e e2 : Expr} {t : TA} {m : EnvM → Bag → Res (List SV)} {p pos tpos : Pos} {elts : List Expr} {kk : Nat} (hm : X.mg "zip" = none) (h : AD X W [e, e2] t m) (hg : Gl X "zip" := by rfl) (hs : starEach [e, e2] X.env = (false, eval e X.env) :: starEach [e2] X.env := by rfl) (hpl : (backTo pos (starEach [e2] X.env)).any (·.1) = false := by rfl) (hK : X.K = K := by rfl) :
    WI X W false (.Tuple elts kk tpos) (.Call (.Name "zip" p) [e, e2] [] pos) (RZ.iZipA K t) (mZip m) := by
  subst hK
  refine ⟨RZ.pi_zipA hg hm h.pe hs hpl, fun w G0 H0 σ env G H B Q R hp => ?_⟩
  refine h.sem w G0 H0 σ env G H B _ R (PostR.bind hp fun ss B1 vs G1 H1 s1 o1 d1 h1 => ?_)
  cases e1 : unD ss with
  | none => simp only [e1] at h1; exact h1.elim
  | some ds =>
    have r := d1.un e1
    simp only [e1] at h1
    split at h1
    · rename_i xs ys q
      cases q
      cases r with
      | cons ha ra =>
        cases ra with
        | cons hb rb =>
          cases rb
          cases ha with
          | lst hx qx =>
            cases hb with
            | lst hy qy => exact ⟨_, _, _, _, rfl, .inl ⟨subL o1.sub hx, subL o1.sub hy, h1 _ G1 H1 Step.refl o1 (Walks.zipL hx hy qx qy)⟩⟩
    · rename_i xs ys q
      cases q
      cases r with
      | cons ha ra =>
        cases ra with
        | cons hb rb =>
          cases rb
          cases ha with
          | tup hx qx =>
            cases hb with
            | tup hy qy => exact ⟨_, _, _, _, rfl, .inr ⟨subT o1.sub hx, subT o1.sub hy, h1 _ G1 H1 Step.refl o1 (Walks.zipT hx hy qx qy)⟩⟩
    · exact h1.elim
end DL
set_option Elab.async false
set_option linter.all false
set_option maxRecDepth 100000
set_option maxHeartbeats 4000000
/-! DL30: several clauses, the first of which serves. -/
namespace DL
open PySem L2 PySem.Spec PyProof.Rows
/-- what the first clause wishes -/
def wAs1 (K : PySem.W.Frag) (c : Value) (i : Nat) (ts : Addr → Value → Option Addr → TS) (D : Ends) : WX := fun cls d σ H =>
  PySem.W.exmOne K cls c = some true ∧ ∀ a, H a = none → ts a cls d { nx := fun σ' H' => D.nx (σ'.set i none) H', rt := D.rt, bk := fun σ' H' => D.bk (σ'.set i none) H', ct := fun σ' H' => D.ct (σ'.set i none) H' } (σ.set i (some (.ref a))) H
section
variable {X : Cx} {x n : Str} {c : Value} {i : Nat} {body suite : List Stmt} {b₀ : Stmt} {np pos pos' : Pos} {tb : WX → TS} {ts : Addr → Value → Option Addr → TS}
theorem ps_try_as1 {rest : List ExceptHandler} (hs : X.stack = X.env :: X.outer) (hf : X.env.frame = some X.env.locals) (hN : X.N.Nodup) (hi : X.N[i]? = some n) (hln : X.env.kindOf n = some .local) (hc : Names X x c)
    (hb : ∀ (W : WX) (pn : List (Addr × Obj)) (xe : Value → Shared → Prop), Takes (X.tr pn xe) W → PassesOwn (model X.prog X.w) X.A X.env xe → PSs (X.tr pn xe) body (tb W))
    (hsu : ∀ (a : Addr) (oe : Obj) (cls : Value) (d : Option Addr) (pn : List (Addr × Obj)), Zc cls d oe → (∃ vs, oe.data = .fields vs) → PSs (X.suite a ((a, oe) :: pn)) (b₀ :: suite) (ts a cls d)) :
    PS X (.Try body (.ExceptHandler (some (.Name x np)) (some n) (b₀ :: suite) pos' :: rest) [] [] pos) (fun D σ H => tb (wAs1 X.K c i ts D) D σ H) := by
  refine ⟨fun pins s σ H D I h => ?_⟩
  have ok := I.ok
  have hfr : X.A.frames = some (X.env :: X.outer) := by rw [ok.frames, hs]
  have hloc : Loc X.env.scope n := .inl hln
  refine wpAny_Try_except ?_
  refine wpAny_mono ((hb (wAs1 X.K c i ts D) (X.pn ++ pins) (fun e s₁ => wpAny (model X.prog X.w) X.A (noteFrame e X.env) (fun _ s₂ => wpAny (model X.prog X.w) X.A (setFlight e none) (fun _ s₃ =>
    wpAny (model X.prog X.w) X.A (handleBy e X.env (.ExceptHandler (some (.Name x np)) (some n) (b₀ :: suite) pos' :: rest)) (SP X pins D) X.xe s₃) X.xe s₂) X.xe s₁) (fun u s' xx => ?_) PassesOwn.looking).run [] s σ H D (I.toTry _) h) (fun f s1 hsp => ?_) (fun e s1 he => he)
  · -- the catch
    obtain ⟨a, B, sI, pins', σ', H', cls, d, rfl, J', nb, up, sky, na, os, ag, hb1, hyes⟩ := xx
    have J : Inv X pins σ' H' sI := J'.ofTry ok
    have sky' : Sky B (X.env :: X.outer) a (Zc cls d) X.env.locals s'.heap := by rw [← hs]; exact sky
    show wpAny (model X.prog X.w) X.A (noteFrame (.ref a) X.env) _ _ _
    refine Sky.land Zc.steady hfr hf sky' fun h3 fl3 up3 => ?_
    have J3 : Inv X pins σ' H' { s' with heap := h3 } := J.landed nb fl3.1 (up.trans up3) os ag
    obtain ⟨oe3, vs3, he3, hz3, hd3⟩ := fl3.there
    have notFr : ∀ {h : Heap} {o : Obj} {vs : Array Value}, h.FunFrames B (X.env :: X.outer) → h.get? a = some o → o.data = .fields vs → a ∉ frs (X.env :: X.outer) := fun {h o vs} ff e dd hm => by
      obtain ⟨_, o', e', hnf⟩ := ff.mem hm
      rw [e] at e'; cases e'
      exact hnf _ dd
    have nfr := notFr fl3.2.2.1 he3 hd3
    have nL : a ≠ X.env.locals := fun z => nfr (List.mem_filterMap.mpr ⟨X.env, List.mem_cons_self, by rw [hf, z]⟩)
    have nF : a ∉ X.fs := fun hm => by
      obtain ⟨e, he, q⟩ := List.mem_filterMap.mp hm
      exact nfr (List.mem_filterMap.mpr ⟨e, List.mem_cons_of_mem _ he, q⟩)
    have S3 := J3.suite he3 hd3 na nL nF
    refine wpAny_handleBy_cons (codeAny_handlers_test ?_) (by intro q; cases q)
    have LT : PySem.W.Looks (model X.prog X.w) h3 (typeOf (.ref a)) cls := fun A Q E s k q => wpAny_typeOf_ref (k _ _ he3) (by rw [hz3.1]; exact q)
    have LM := PySem.W.exm_one (M := model X.prog X.w) (J3.kIn) LT hb1
    have test : ∀ {Q : Value → Shared → Prop} {E : Value → Shared → Prop}, Q c { s' with heap := h3 } → wpAny (model X.prog X.w) (X.A.mark (some (.ref a))) (eval (.Name x np) X.env) Q E { s' with heap := h3 } := fun {Q E} q => by
      obtain ⟨hg, hdbg, hm | ⟨hm, hv, hnn⟩⟩ := hc
      · exact ld_glob (X := X.suite a ((a, oe3) :: (X.pn ++ pins))) S3 hg hm q hdbg
      · exact ld_blt (X := X.suite a ((a, oe3) :: (X.pn ++ pins))) S3 hg hm hv q hnn hdbg
    refine test (LM.here ?_)
    refine codeAny_handlers_suite_as ?_
    refine HandSPX.lands_againZ fl3 fun h4 fl4 up4 => ?_
    have J4 : Inv X pins σ' H' { s' with heap := h4 } := J.landed nb fl4.1 ((up.trans up3).trans up4) os ag
    obtain ⟨oe4, vs4, he4, hz4, hd4⟩ := fl4.there
    have S4 := J4.suite he4 hd4 na nL nF
    refine store_ok (X := X.suite a ((a, oe4) :: (X.pn ++ pins))) (v := .ref a) S4 hN hi hloc rfl (fun s5 S5 => ?_) (.inr hln)
    refine wpAny_mono ((hsu a oe4 cls d (X.pn ++ pins) hz4 ⟨_, hd4⟩).run [] s5 _ H' _ S5 (hyes a na)) (fun f s6 hsp => ?_) (fun _ _ z => False.elim z)
    have end_ : ∀ {σ6 : L2.St} {H6 : Hp} {Q : Shared → Prop}, Inv (X.suite a ((a, oe4) :: (X.pn ++ pins))) [] σ6 H6 s6 → (∀ s7, Inv X pins (σ6.set i none) H6 s7 → Q s7) →
        wpAny (model X.prog X.w) X.A (do bindName X.env n .none; unbindBehindTheSuite X.env n pos') (fun _ s7 => Q s7) X.xe s6 := fun {σ6 H6 Q} S6 hq => gone_ok (S6.unsuite ok) hN hi hln hq
    cases f with
    | next =>
      obtain ⟨σ6, H6, S6, q6⟩ := hsp
      exact end_ S6 fun s7 J7 => ⟨_, _, J7, q6⟩
    | brk =>
      obtain ⟨σ6, H6, S6, q6⟩ := hsp
      exact end_ S6 fun s7 J7 => ⟨_, _, J7, q6⟩
    | cont =>
      obtain ⟨σ6, H6, S6, q6⟩ := hsp
      exact end_ S6 fun s7 J7 => ⟨_, _, J7, q6⟩
    | ret u =>
      obtain ⟨v6, σ6, H6, S6, r6, q6⟩ := hsp
      exact end_ S6 fun s7 J7 => ⟨_, _, _, J7, r6, q6⟩
  · cases f with
    | next =>
      obtain ⟨σ', H', J', q⟩ := hsp
      exact wpAny_execs_nil ⟨σ', H', J'.ofTry ok, q⟩
    | brk =>
      obtain ⟨σ', H', J', q⟩ := hsp
      exact ⟨σ', H', J'.ofTry ok, q⟩
    | cont =>
      obtain ⟨σ', H', J', q⟩ := hsp
      exact ⟨σ', H', J'.ofTry ok, q⟩
    | ret u =>
      obtain ⟨v, σ', H', J', r, q⟩ := hsp
      exact ⟨v, σ', H', J'.ofTry ok, r, q⟩
end
end DL
set_option Elab.async false
set_option linter.all false
set_option maxRecDepth 100000
set_option maxHeartbeats 2000000
/-! DL31: a told lambda where further clauses stand behind the first. -/
namespace DL
open PySem L2
open ZT (PT)
theorem gives_told1 (rest : List ExceptHandler) (K : Fg) (mg : Str → Option Value) {X : Cx} {Ng : List Str} {x a n q tg c : Str} {sg : Scope} {g C : Addr} {cdg : Value} {i j kt kt2 : Nat} {es : List Expr} {th : Addr → Value → Option Addr → TA} {mh : List (Str × PD) → Option (List PD)} {p1 p2 p3 p4 p5 p6 p7 p8 p9 p10 p11 : Pos}
    (hh : ∀ (s : Shared) (H : Hp), HD (ToldX X Ng x sg g cdg s H) i C es th mh) (hN : Ng.Nodup) (hil : i < Ng.length) (hC : mg c = some (.ref C)) (hte : PySem.W.exmOne K (.ref C) (.ref C) = some true) (h0 : ∀ f : Addr, (L2.start Ng [V.ref f])[0]? = some (some (V.ref f)))
    (hse : ∀ (s : Shared) (H : Hp) (pn : List (Addr × Obj)) (xe : Value → Shared → Prop), starEach [.Constant (.str tg) j p1, .Call (.Name a p2) [] [] p3] ((ToldX X Ng x sg g cdg s H).tr pn xe).env = (false, eval (.Constant (.str tg) j p1) ((ToldX X Ng x sg g cdg s H).tr pn xe).env) :: starEach [.Call (.Name a p2) [] [] p3] ((ToldX X Ng x sg g cdg s H).tr pn xe).env := by exact fun _ _ _ _ => rfl)
    (hse2 : ∀ (s : Shared) (H : Hp) (pn : List (Addr × Obj)) (xe : Value → Shared → Prop), starEach [.Call (.Name a p2) [] [] p3] ((ToldX X Ng x sg g cdg s H).tr pn xe).env = (false, eval (.Call (.Name a p2) [] [] p3) ((ToldX X Ng x sg g cdg s H).tr pn xe).env) :: starEach [] ((ToldX X Ng x sg g cdg s H).tr pn xe).env := by exact fun _ _ _ _ => rfl)
    (hi : Ng[i]? = some n := by rfl) (hln : ∀ (s : Shared) (H : Hp), (ToldX X Ng x sg g cdg s H).env.kindOf n = some .local := by exact fun _ _ => rfl) (hg : ∀ (s : Shared) (H : Hp), Gl (ToldX X Ng x sg g cdg s H) c := by exact fun _ _ => rfl) (hdb : (c == ("__debug__" : Str)) = false := by decide)
    (hK : X.K = K := by rfl) (hM : X.mg = mg := by rfl) :
    LamX.GivesTo X Ng x sg g cdg [.Try [.Return (some (.Tuple [.Constant (.str tg) j p1, .Call (.Name a p2) [] [] p3] kt p4)) p5] (.ExceptHandler (some (.Name c p6)) (some n) [.Return (some (.Tuple es kt2 p7)) p8] p9 :: rest) [] [] p10] a q (TDeed K mg (mTold tg c mh)) := by
  subst hK hM
  intro f c' s H Q tl act hc h
  obtain ⟨w, G, B, r, o, hr, hp⟩ := h
  refine ⟨_, pss_one (ps_try_as1 (rest := rest) (X := ToldX X Ng x sg g cdg s H) (i := i)
      (tb := fun W D σ H => ∃ Ech : XK, (∀ cls d σ' H', Ech cls d H' → W cls d σ' H') ∧ σ[0]? = some (some (.ref f)) ∧ H c' = some (LamX.CodeO c' q) ∧ tl Ech H fun v H1 => [V.str tg, v].length ≤ sizeLine ∧ ZT.Mk D.rt [.str tg, v] H1)
      rfl rfl hN hi (hln s H) ⟨hg s H, hdb, .inl hC⟩ (fun W pn xe tk _ => ?_) (fun a oe cls d pn hz hfl => pss_one (ps_ret (ZT.pe_tupP ((hh s H).pe a oe cls d pn hz hfl))))), ?_⟩
  · refine ⟨fun pins s' σ H' D I h' => ?_⟩
    obtain ⟨Ech, hW, h1, h2, h3⟩ := h'
    have hp := act W pn xe Ech p2 p3 tk hW
    have hq := pss_one (ps_ret (pos := p5) (ZT.pe_tupP (pos := p4) (x1 := kt) (pa_cons (pe_str (x := tg) (j := j) (pos := p1)) (pa_cons hp pa_nil (hse2 s H pn xe)) (hse s H pn xe))))
    exact hq.run pins s' σ H' D I ⟨h1, h2, h3⟩
  · refine ⟨fun cls d H' => ∀ σ', wAs1 X.K (.ref C) i (fun a cls d => tRet (ZT.tTupP (th a cls d))) { nx := fun _ H' => Q .non H', rt := Q } cls d σ' H', fun cls d σ' H' z => z σ', h0 f, hc, hr _ G H B _ rfl Step.refl o ?_⟩
    unfold mTold at hp
    cases e : r B with
    | bad => rw [e] at hp; exact hp.elim
    | ok d B1 =>
      rw [e] at hp
      intro v G' H' s1 o1 d1
      refine ⟨by show 2 ≤ sizeLine; decide, fun p ob hp' hd => hp (.ref p) _ _ (s1.trans (Step.new o1.sub hp')) (o1.new hp') (.tup (PT.new hd) (.cons (.str tg) (.cons (d1.mono (sub_upd (o1.free hp'))) .nil)))⟩
    | exc c2 as B1 =>
      rw [e] at hp
      have hp : PostE X.K X.mg w G H (if c2 = c then (match mh as with | some ds => if ds.length ≤ sizeLine then .ok (.tuple ds) B1 else .bad | none => .bad) else .bad) Q (fun _ _ _ => False) := hp
      by_cases hcc : c2 = c
      · rw [if_pos hcc] at hp
        cases em : mh as with
        | none => rw [em] at hp; exact hp.elim
        | some ds =>
          rw [em] at hp
          have hp : PostE X.K X.mg w G H (if ds.length ≤ sizeLine then .ok (.tuple ds) B1 else .bad) Q (fun _ _ _ => False) := hp
          by_cases hl : ds.length ≤ sizeLine
          · rw [if_pos hl] at hp
            intro cls dd fs G' H' m s1 o1 hd hfs σ'
            rw [hcc] at m
            have ec : cls = .ref C := Option.some.inj (m.symm.trans hC)
            subst ec
            refine ⟨hte, fun a ha => ?_⟩
            refine (hh s H).sem a dd fs as ds _ G' H' _ (fun hlen => List.getElem?_set_self (by rw [List.length_set] at hlen; rw [hlen]; exact hil)) hd hfs em fun vs rr => ⟨by rw [rr.length]; exact hl, fun p ob hp' hob => ?_⟩
            exact hp (.ref p) _ _ (s1.trans (Step.new o1.sub hp')) (o1.new hp') (.tup (PT.new hob) (rr.mono (sub_upd (o1.free hp'))))
          · rw [if_neg hl] at hp; exact hp.elim
      · rw [if_neg hcc] at hp; exact hp.elim
end DL
set_option Elab.async false
set_option linter.all false
set_option maxRecDepth 100000
set_option maxHeartbeats 4000000
/-! DL32: x, y = a list. -/
namespace DL
open PySem L2
def mgLstU (r : List PD → EnvM → Option EnvM) (n : Nat) : PD → EnvM → Option EnvM := fun d env => match d with
  | .list ds => if ds.length = n then r ds env else none
  | _ => none
theorem gt_lstK {X : Cx} (K : Fg) {es : List Expr} {k : Nat} {g : TGs} {mr : List PD → EnvM → Option EnvM} {js : List Nat} {n : Nat} {pos : Pos} (hc : X.calm = true) (h : GTs X es g mr js)
    (hn : (assignEach es X.env).length = n := by rfl) (hst : (assignEach es X.env).findIdx? (·.1) = none := by rfl) (hK : X.K = K := by rfl) : GT X true (.Tuple es k pos) (gUnl K n g) (mgLstU mr n) js := by
  subst hK
  refine ⟨pg_unl hc h.pg hn hst, fun w G0 H0 σ env G H B v d env' Q R hd e k => ?_⟩
  cases d with
  | list ds =>
    have e : (if ds.length = n then mr ds env else none) = some env' := e
    by_cases hl : ds.length = n
    · rw [if_pos hl] at e
      have hd : DR X.K G v (.list ds) := hd
      cases hd with
      | lst hx r => exact ⟨_, _, rfl, SqL.of (R.ok.sub _ _ hx), by rw [r.length]; exact hl, h.sem w G0 H0 σ env G H B _ ds env' Q R r e k⟩
    · rw [if_neg hl] at e; cases e
  | _ => cases e
end DL
set_option Elab.async false
set_option linter.all false
set_option maxRecDepth 100000
set_option maxHeartbeats 4000000
/-! DL33: & and >> of ints, x >>= e, texts joined, int(t, 2), the lesser of two ints. -/
namespace DL
open PySem L2
section
variable {X : Cx} {W : WX}
def shrP : PD → PD → Option PD := int2 fun i j => if 0 ≤ j then some (.int (i / 2 ^ j.toNat)) else none
def andP : PD → PD → Option PD := int2 fun i j => some (.int (Builtin.bitAnd i j))
theorem opD_shr : OpD X (rI (fun _ j => 0 ≤ j) fun i j => .int (i / 2 ^ j.toNat)) shrP := by
  intro w G H B x y d e z Q o dx dy hz k
  obtain ⟨i, j, rfl, rfl, h⟩ := int2_inv hz
  obtain ⟨hc, rfl⟩ := some_if h
  cases dx; cases dy
  exact ⟨_, _, rfl, rfl, hc, k _ G H Step.refl o (.int _)⟩
theorem opD_and : OpD X (rI0 fun i j => .int (Builtin.bitAnd i j)) andP := by
  intro w G H B x y d e z Q o dx dy hz k
  obtain ⟨i, j, rfl, rfl, h⟩ := int2_inv hz
  cases dx; cases dy; cases h
  exact ⟨_, _, rfl, rfl, k _ G H Step.refl o (.int _)⟩
theorem ed_shr {a b : Expr} {ta tb : TE} {ma mb : EnvM → Bag → Res PD} {pos : Pos} (ha : ED X W a ta ma) (hb : ED X W b tb mb) : ED X W (.BinOp a .RShift b pos) (tOp (rI (fun _ j => 0 ≤ j) fun i j => .int (i / 2 ^ j.toNat)) ta tb) (mOp shrP ma mb) := ed_op op_shr opD_shr ha hb
theorem ed_and2 {a b : Expr} {ta tb : TE} {ma mb : EnvM → Bag → Res PD} {pos : Pos} (ha : ED X W a ta ma) (hb : ED X W b tb mb) : ED X W (.BinOp a .BitAnd b pos) (tOp (rI0 fun i j => .int (Builtin.bitAnd i j)) ta tb) (mOp andP ma mb) := ed_op op_and opD_and ha hb
/-- x op= e, any operator -/
def mAugG (i : Nat) (g : PD → PD → Option PD) (m : EnvM → Bag → Res PD) : EnvM → Bag → SRes := fun env B => match env[i]? with
  | some (some (.d a)) => (m env B).s env fun b B1 => match g a b with
    | some z => .nx (env.set i (some (.d z))) B1
    | none => .bad
  | _ => .bad
theorem sd_augG (i : Nat) {x : Str} {e : Expr} {t : TE} {m : EnvM → Bag → Res PD} {op : Operator} {r : R2} {g : PD → PD → Option PD} {pos pos' : Pos} (hN : X.N.Nodup) (ho : OpR X (inplaceOp op) r) (hd : OpD X r g) (he : ED X W e t m) (hi : X.N[i]? = some x := by rfl) (hx : Loc X.env.scope x := by first | exact Or.inl rfl | exact Or.inr rfl)
    (hf : X.fn x = true ∨ X.env.scope.names.lookup x = some .local := by first | exact .inl rfl | exact .inr rfl) :
    SD X W (.AugAssign (.Name x pos') op e pos) (tAug i t r) (mAugG i g m) := by
  refine ⟨ps_aug hN hi hx he.pe (fun pins s σ H x y v u Q I rx ry h => ho pins s σ H x y v u Q I rx ry h) hf, fun w G0 H0 σ env G H B D R h => ?_⟩
  unfold mAugG at h
  split at h
  · rename_i a q
    obtain ⟨v, h1, h2⟩ := R.slot i _ q
    refine ⟨_, h1, ?_⟩
    refine he.sem w G0 H0 σ env G H B _ R (PostS.bind R (Sub.refl _) h fun d B1 v1 G1 H1 s1 o1 d1 h1 => ?_)
    cases eq : g a d with
    | none => rw [eq] at h1; exact h1.elim
    | some z =>
      rw [eq] at h1
      refine hd w G1 H1 B1 v v1 a d z _ o1 (h2.mono s1.exG) d1 eq fun u G2 H2 s2 o2 d2 => ?_
      exact h1 _ G2 H2 (((R.step s1 o1).step s2 o2).set i d2) (s1.trans s2).exG
  · exact h.elim
/-! ### sep.join(a list) -/
def strsJP : List PD → Option (List Str)
  | [] => some []
  | .str x :: ds => (strsJP ds).map (x :: ·)
  | _ :: _ => none
theorem DRs.strsJ {K : Fg} {G : Hp} : ∀ {vs : List V} {ds : List PD} {ys : List Str}, DRs K G vs ds → strsJP ds = some ys → vs = ys.map V.str
  | _, [], ys, r, h => by cases r; cases h; rfl
  | _, d :: ds, ys, r, h => by
    cases r with
    | cons h1 h2 =>
      cases d with
      | str x =>
        have h : (strsJP ds).map (x :: ·) = some ys := h
        cases q : strsJP ds with
        | none => rw [q] at h; cases h
        | some zs =>
          rw [q] at h; cases h
          cases h1
          rw [DRs.strsJ h2 q]; rfl
      | _ => cases h
def joinP (a : Str) : PD → Option PD
  | .list ds => match strsJP ds with
    | some ys => if (ys.map (·.length)).sum + ys.length * a.length ≤ 16777216 then some (.str (Txt.join a ys)) else none
    | none => none
  | _ => none
def mJoin (ma mb : EnvM → Bag → Res PD) : EnvM → Bag → Res PD := fun env B => (ma env B).bind fun x B1 => match x with
  | .str a => (mb env B1).bind fun d B2 => match joinP a d with
    | some z => .ok z B2
    | none => .bad
  | _ => .bad
theorem ed_join {o e : Expr} {to te : TE} {ma mb : EnvM → Bag → Res PD} {apos pos : Pos} (ho : ED X W o to ma) (he : ED X W e te mb) (hs : starEach [e] X.env = [(false, eval e X.env)] := by rfl) (hbase : attributeBase o "join" X.env (eval o X.env) = eval o X.env := by rfl) (hline : (apos.endLine == pos.line) = true := by rfl) :
    ED X W (.Call (.Attribute o "join" apos) [e] [] pos) (tM1 (fun x xs H Q => ∃ a p, ∃ ys : List Str, x = .str a ∧ xs = [.ref p] ∧ (SqL X.K H p (ys.map V.str) ∨ SqT X.K H p (ys.map V.str)) ∧
      (ys.map (·.length)).sum + ys.length * a.length ≤ 16777216 ∧ Q (.str (Txt.join a ys)) H) to te) (mJoin ma mb) := by
  refine ⟨pe_join ho.pe he.pe hs hbase hline, fun w G0 H0 σ env G H B Q R h => ?_⟩
  refine ho.sem w G0 H0 σ env G H B _ R (PostR.bind h fun x B1 v G1 H1 s1 o1 d1 h1 => ?_)
  cases x with
  | str a =>
    cases d1
    refine ⟨⟨a, rfl⟩, he.sem w G0 H0 σ env G1 H1 B1 _ (R.step s1 o1) (PostR.bind h1 fun d B2 v2 G2 H2 s2 o2 d2 h2 => ?_)⟩
    cases d with
    | list ds =>
      cases d2 with
      | lst hx q =>
        cases e1 : strsJP ds with
        | none =>
          have h2 : PostE X.K X.mg w G2 H2 (match (match strsJP ds with | some ys => if (ys.map (·.length)).sum + ys.length * a.length ≤ 16777216 then some (PyData.str (Txt.join a ys)) else none | none => none) with | some z => .ok z B2 | none => .bad) Q (fun c d H' => W c d σ H') := h2
          rw [e1] at h2; exact h2.elim
        | some ys =>
          have h2 : PostE X.K X.mg w G2 H2 (match (match strsJP ds with | some ys => if (ys.map (·.length)).sum + ys.length * a.length ≤ 16777216 then some (PyData.str (Txt.join a ys)) else none | none => none) with | some z => .ok z B2 | none => .bad) Q (fun c d H' => W c d σ H') := h2
          rw [e1] at h2
          have ev := DRs.strsJ q e1
          subst ev
          by_cases c : (ys.map (·.length)).sum + ys.length * a.length ≤ 16777216
          · simp only [if_pos c] at h2
            exact ⟨a, _, ys, rfl, rfl, .inl (subL o2.sub hx), c, h2 _ G2 H2 Step.refl o2 (.str _)⟩
          · simp only [if_neg c] at h2
            exact h2.elim
    | _ => exact (show False from h2).elim
  | _ => exact (show False from h1).elim
/-! ### min(i, j) -/
def min2P : List PD → Option PD
  | [.int i, .int j] => some (.int (if j < i then j else i))
  | _ => none
theorem ca_min2 : CaD X (fun xs H Q => ∃ i j, xs = [.int i, .int j] ∧ Q (.int (if j < i then j else i)) H) min2P := by
  intro w G H B vs ds z Q o r hz k
  unfold min2P at hz
  split at hz
  · cases hz
    cases r with
    | cons h1 t =>
      cases t with
      | cons h2 t =>
        cases t
        cases h1; cases h2
        exact ⟨_, _, rfl, k _ G H Step.refl o (.int _)⟩
  · cases hz
/-! ### xs[::-1] of a list -/
def mRevL (m : EnvM → Bag → Res PD) : EnvM → Bag → Res PD := fun env B => (m env B).bind fun d B1 => match d with
  | .list ds => .ok (.list ds.reverse) B1
  | _ => .bad
theorem ed_revLK (K : Fg) {e : Expr} {te : TE} {m : EnvM → Bag → Res PD} {k : Nat} {p1 p2 p3 pos : Pos} (he : ED X W e te m) (hK : X.K = K := by rfl) : ED X W (.Subscript e (.Slice none none (some (.UnaryOp .USub (.Constant (.int 1) k p1) p2)) p3) pos) (tRevL K te) (mRevL m) := by
  subst hK
  refine ⟨pe_revL he.pe, fun w G0 H0 σ env G H B Q R h => ?_⟩
  refine he.sem w G0 H0 σ env G H B _ R (PostR.bind h fun d B1 v G1 H1 s1 o1 d1 h1 => ?_)
  cases d with
  | list ds =>
    cases d1 with
    | lst hx r => exact ⟨_, _, rfl, subL o1.sub hx, fun p hp => h1 _ _ _ (Step.new o1.sub hp) (o1.new hp) (.lst upd_same ((r.mono (new_sub o1.sub hp)).reverse))⟩
  | _ => exact (show False from h1).elim
end
end DL
namespace L2
open PySem PySem.Spec PyProof.Rows
namespace Bx
open PySem.NumText PySem.Calls Hx
def IsBin (c : Nat) : Prop := c = 48 ∨ c = 49
def bv (c : Nat) : Nat := c - 48
def binNum (l : List Nat) : Nat := l.foldl (fun a c => a * 2 + bv c) 0
theorem IsBin.hex {c : Nat} (h : IsBin c) : IsHex c := by
  unfold IsBin at h; unfold IsHex; omega
theorem hexs {cs : List Nat} (h : ∀ c ∈ cs, IsBin c) : ∀ c ∈ cs, IsHex c := fun c hc => (h c hc).hex
theorem digit_bin {c : Nat} (h : IsBin c) : digit? c = some (bv c) := by
  rw [digit_hex h.hex]
  unfold IsBin at h; unfold hv bv
  rw [if_pos (by omega)]
theorem step_bin {ds : Array Nat} {b : Bool} {c : Nat} (h : IsBin c) : PySem.NumText.step 2 (ds, b) c = some (ds.push (bv c), true) := by
  have hr := hex_rng h.hex
  unfold PySem.NumText.step
  rw [if_neg (by rw [beq_iff_eq]; exact hr.2.2), digit_bin h]
  exact if_pos (by unfold IsBin at h; unfold bv; omega)
theorem foldl_bin : ∀ (cs : List Nat) (ds : Array Nat), (∀ c ∈ cs, IsBin c) → cs.foldlM (PySem.NumText.step 2) (ds, true) = some (cs.foldl (fun acc c => acc.push (bv c)) ds, true)
  | [], _, _ => rfl
  | c :: cs, ds, h => by
    rw [List.foldlM_cons, step_bin (h c (List.mem_cons_self ..))]
    show cs.foldlM (PySem.NumText.step 2) (ds.push (bv c), true) = _
    exact foldl_bin cs (ds.push (bv c)) fun d hd => h d (List.mem_cons_of_mem _ hd)
theorem digits_bin {cs : List Nat} (h : ∀ c ∈ cs, IsBin c) (hne : cs ≠ []) : digits? 2 cs = some (cs.foldl (fun acc c => acc.push (bv c)) #[]) := by
  cases cs with
  | nil => exact absurd rfl hne
  | cons c cs =>
    unfold digits?
    rw [List.foldlM_cons, step_bin (h c (List.mem_cons_self ..))]
    show (cs.foldlM (PySem.NumText.step 2) ((#[] : Array Nat).push (bv c), true)).bind _ = _
    rw [foldl_bin cs _ fun d hd => h d (List.mem_cons_of_mem _ hd)]
    rfl
theorem push_bin : ∀ (cs : List Nat) (ds : Array Nat), (cs.foldl (fun acc c => acc.push (bv c)) ds).foldl (fun acc d => acc * 2 + d) 0 = cs.foldl (fun a c => a * 2 + bv c) (ds.foldl (fun acc d => acc * 2 + d) 0)
  | [], _ => rfl
  | c :: cs, ds => by
    rw [List.foldl_cons, push_bin cs (ds.push (bv c)), List.foldl_cons]
    congr 1
    simp
theorem basedB {cs : List Nat} (h : ∀ c ∈ cs, IsBin c) : based 2 cs = (2, false, cs) := by
  match cs, h with
  | [], _ => rfl
  | [a], h =>
    have ha := h a (List.mem_cons_self ..)
    rcases ha with rfl | rfl <;> rfl
  | a :: c :: r, h =>
    have ha := h a (List.mem_cons_self ..)
    have hc := h c (List.mem_cons_of_mem _ (List.mem_cons_self ..))
    rcases ha with rfl | rfl <;> rcases hc with rfl | rfl <;> rfl
theorem read_bin {cs : List Nat} (h : ∀ c ∈ cs, IsBin c) (hne : cs ≠ []) : (int_private% "readNumeral") 0 2 cs = (int_private% "Numeral.value") ((binNum cs : Nat) : Int) := by
  have hr : ∀ c ∈ cs.reverse, IsHex c := fun c hc => hexs h c (List.mem_reverse.mp hc)
  refine (readNumeral_eq 0 2 cs).trans ?_
  rw [dropB (hexs h), signH (hexs h)]
  show judge 0 false (based 2 cs).1 (based 2 cs).2.1 (digits? (based 2 cs).1 (((based 2 cs).2.2.reverse.dropWhile blank).reverse)) = _
  rw [basedB h]
  show judge 0 false 2 false (digits? 2 ((cs.reverse.dropWhile blank).reverse)) = _
  rw [dropB hr, List.reverse_reverse, digits_bin h hne]
  show (int_private% "Numeral.value") (((cs.foldl (fun acc c => acc.push (bv c)) (#[] : Array Nat)).foldl (fun acc d => acc * 2 + d) 0 : Nat) : Int) = _
  have z : (#[] : Array Nat).foldl (fun acc d => acc * 2 + d) 0 = 0 := by first | rfl | simp
  rw [push_bin, z] <;> rfl
set_option maxHeartbeats 4000000 in
theorem gives_bin {x : PySem.Str} {u t : Tok} (hl : x.length ≤ 640) (h : ∀ c ∈ x.cps.toList, IsBin c) (hne : x.cps.toList ≠ []) :
    Gives (Builtin.«int.__new__» ⟨[.type "int", .str x u, .int 2 t], []⟩) (.int ((binNum x.cps.toList : Nat) : Int)) :=
  .of_wp fun M A E s Q hQ => by
    obtain ⟨hp, g, d, tk, os⟩ := s
    have f1 := F.conv_sub_int
    have f2 := F.madeHere_int
    have f6 : typeOf (.str x u) = pure (.type "str") := rfl
    obtain ⟨e1, e2⟩ := seen_hex (hexs h)
    have hs : (numSeenOf x).length ≤ 640 := by
      rw [e2, Array.length_toList]
      exact hl
    have hr : (int_private% "readNumeral") 0 2 (numSeenOf x) = (int_private% "Numeral.value") ((binNum x.cps.toList : Nat) : Int) := by
      rw [e2]
      exact read_bin h hne
    have ha : ((numSeenOf x).length == (numTextOf x).length) = true := by
      rw [e1, e2]
      exact beq_self_eq_true _
    have hk := Hid.mk (And.intro hs (And.intro hr ha))
    clear hs hr ha e1 e2 hl hne h
    repeat (any_goals (first
      | assumption
      | ((with_reducible show wpAny _ _ ((int_private% "intFromText") _ _ _) _ _ _); refine wp_textB hk.out.1 hk.out.2.1 hk.out.2.2 ?_)
      | wp_step))
    all_goals first | exact ⟨_, rfl, hQ⟩ | skip
theorem call_bin {prog : Program} {w : World} {A : Around} {E : Value → Shared → Prop} {s : Shared} {Q : Value → Shared → Prop} {x : PySem.Str} {u t : Tok} (hl : x.length ≤ 640) (h : ∀ c ∈ x.cps.toList, IsBin c) (hne : x.cps.toList ≠ [])
    (hQ : Q (.int ((binNum x.cps.toList : Nat) : Int) s.toks) { s with toks := s.toks + 1 }) : wpAny (model prog w) A (call (.type "int") [.str x u, .int 2 t]) Q E s :=
  callType_new F.called_int F.newNe_int (typeCall_int_2 _ _) (newCall_int_2 _ _) (fun obj => F.initArgs_range_2 obj _ _) F.entry_int_new (gives_bin hl h hne).meets (show (Made.int ((binNum x.cps.toList : Nat) : Int)).post _ s from ⟨rfl, hQ⟩)
end Bx
/-- int(t, 2) -/
def rIntBin : List V → Hp → VK → Prop := fun xs H Q => ∃ x : Str, xs = [.str x, .int 2] ∧ x.cps.toList ≠ [] ∧ x.length ≤ 640 ∧ (∀ c ∈ x.cps.toList, Bx.IsBin c) ∧ Q (.int ((Bx.binNum x.cps.toList : Nat) : Int)) H
theorem call_int_bin {X : Cx} : CallR X (.type "int") rIntBin := by
  intro pins s σ H xs us Q I r h
  obtain ⟨x, rfl, hne, hl, hx, q⟩ := h
  obtain ⟨u, w', rfl, r1, r2⟩ := vals2 r
  obtain ⟨t1, rfl⟩ := r1
  obtain ⟨t2, rfl⟩ := r2
  exact Bx.call_bin (x := x) hl hx hne ⟨.int ((Bx.binNum x.cps.toList : Nat) : Int), H, I.tok _, ⟨_, rfl⟩, q⟩
end L2
namespace DL
open PySem L2
def intBinP : List PD → Option PD
  | [.str x, .int 2] => if x.cps.toList ≠ [] ∧ x.length ≤ 640 ∧ (x.cps.toList.all fun c => c == 48 || c == 49) = true then some (.int ((Bx.binNum x.cps.toList : Nat) : Int)) else none
  | _ => none
theorem ca_intBin {X : Cx} : CaD X rIntBin intBinP := by
  intro w G H B vs ds z Q o r hz k
  unfold intBinP at hz
  split at hz
  · obtain ⟨hc, rfl⟩ := some_if hz
    cases r with
    | cons h1 t =>
      cases t with
      | cons h2 t =>
        cases t
        cases h1; cases h2
        refine ⟨_, rfl, hc.1, hc.2.1, fun c hm => ?_, k _ G H Step.refl o (.int _)⟩
        have := List.all_eq_true.mp hc.2.2 c hm
        unfold Bx.IsBin
        simpa using this
  · cases hz
end DL
set_option Elab.async false
set_option linter.all false
set_option maxRecDepth 100000
set_option maxHeartbeats 4000000
/-! PLB: the mirrors evaluated, step by step. -/
namespace DL
open PySem L2
section
variable {env e1 e2 : EnvM} {B B1 B2 B3 : Bag} {ma mb mc : EnvM → Bag → Res PD} {x y z d : PD} {g g' : PD → PD → Option PD} {c : PD → PD → Option Bool} {k k' : Bool}
theorem r_c : mC d env B = .ok d B := rfl
theorem r_var {i : Nat} (h : env[i]? = some (some (.d x))) : mVar i env B = .ok x B := by unfold mVar; rw [h]
theorem r_op (ha : ma env B = .ok x B1) (hb : mb env B1 = .ok y B2) (hg : g x y = some z) : mOp g ma mb env B = .ok z B2 := by
  unfold mOp; rw [ha]; show (mb env B1).bind _ = _; rw [hb]; show (match g x y with | some z => Res.ok z B2 | none => .bad) = _; rw [hg]
theorem r_cmp (ha : ma env B = .ok x B1) (hb : mb env B1 = .ok y B2) (hg : c x y = some k) : mCmp c ma mb env B = .ok k B2 := by
  unfold mCmp; rw [ha]; show (mb env B1).bind _ = _; rw [hb]; show (match c x y with | some z => Res.ok z B2 | none => .bad) = _; rw [hg]
theorem r_b {m : EnvM → Bag → Res Bool} (h : m env B = .ok k B1) : mB m env B = .ok (.bool k) B1 := by unfold mB; rw [h]; rfl
theorem r_chF {c' : PD → PD → Option Bool} (ha : ma env B = .ok x B1) (hb : mb env B1 = .ok y B2) (hg : c x y = some false) : mChain c c' ma mb mc env B = .ok false B2 := by
  unfold mChain; rw [ha]; show (mb env B1).bind _ = _; rw [hb]; simp only [Res.bind, hg]
theorem r_chT {c' : PD → PD → Option Bool} (ha : ma env B = .ok x B1) (hb : mb env B1 = .ok y B2) (hg : c x y = some true) (hc : mc env B2 = .ok z B3) (hg' : c' y z = some k) : mChain c c' ma mb mc env B = .ok k B3 := by
  unfold mChain; rw [ha]; show (mb env B1).bind _ = _; rw [hb]; simp only [Res.bind, hg, hc, hg']
/-- both comparisons pure -/
theorem r_ch {c' : PD → PD → Option Bool} (ha : ma env B = .ok x B1) (hb : mb env B1 = .ok y B2) (hg : c x y = some k) (hc : mc env B2 = .ok z B2) (hg' : c' y z = some k') : mChain c c' ma mb mc env B = .ok (k && k') B2 := by
  cases k with
  | false => exact r_chF ha hb hg
  | true => rw [Bool.true_and]; exact r_chT ha hb hg hc hg'
theorem r_tru (h : ma env B = .ok x B1) (e : truP x = some k) : mTru truP ma env B = .ok k B1 := by unfold mTru; rw [h]; simp only [Res.bind, e]
theorem r_truB (h : ma env B = .ok (.bool k) B1) : mTru truP ma env B = .ok k B1 := r_tru h rfl
theorem r_not {m : EnvM → Bag → Res Bool} (h : m env B = .ok k B1) : mNot m env B = .ok (!k) B1 := by unfold mNot; rw [h]; rfl
theorem r_andF {m n : EnvM → Bag → Res Bool} (h : m env B = .ok false B1) : mAnd m n env B = .ok false B1 := by unfold mAnd; rw [h]; rfl
theorem r_andT {m n : EnvM → Bag → Res Bool} {r : Res Bool} (h : m env B = .ok true B1) (h2 : n env B1 = r) : mAnd m n env B = r := by unfold mAnd; rw [h]; exact h2
theorem r_orT {m n : EnvM → Bag → Res Bool} (h : m env B = .ok true B1) : mOr m n env B = .ok true B1 := by unfold mOr; rw [h]; rfl
theorem r_orF {m n : EnvM → Bag → Res Bool} {r : Res Bool} (h : m env B = .ok false B1) (h2 : n env B1 = r) : mOr m n env B = r := by unfold mOr; rw [h]; exact h2
/-- the second read only if the first is false, and then without a change -/
theorem r_or {m n : EnvM → Bag → Res Bool} (h : m env B = .ok k B1) (h2 : k = false → n env B1 = .ok k' B1) : mOr m n env B = .ok (k || k') B1 := by
  cases k with
  | true => exact r_orT h
  | false => rw [Bool.false_or]; exact r_orF h (h2 rfl)
theorem r_andV (h : ma env B = .ok (.bool k) B1) (h2 : k = true → mb env B1 = .ok (.bool k') B1) : mAndV ma mb env B = .ok (.bool (k && k')) B1 := by
  cases k with
  | false => unfold mAndV; rw [h]; rfl
  | true => unfold mAndV; rw [h, Bool.true_and]; exact h2 rfl
theorem r_orV (h : ma env B = .ok (.bool k) B1) (h2 : k = false → mb env B1 = .ok (.bool k') B1) : mOrV ma mb env B = .ok (.bool (k || k')) B1 := by
  cases k with
  | true => unfold mOrV; rw [h]; rfl
  | false => unfold mOrV; rw [h, Bool.false_or]; exact h2 rfl
theorem r_notV (h : ma env B = .ok (.bool k) B1) : mNotV ma env B = .ok (.bool (!k)) B1 := by unfold mNotV; rw [h]; rfl
theorem r_isi {f : PD → Bool} (h : ma env B = .ok x B1) : mIsi f ma env B = .ok (.bool (f x)) B1 := by unfold mIsi; rw [h]; rfl
theorem r_isi2 {f h' : PD → Bool} (h : ma env B = .ok x B1) : mIsi2 f h' ma env B = .ok (.bool (f x || h' x)) B1 := by unfold mIsi2; rw [h]; rfl
theorem r_neg {i : Int} (h : ma env B = .ok (.int i) B1) : mNeg ma env B = .ok (.int (-i)) B1 := by unfold mNeg; rw [h]; rfl
theorem r_g (h : ma env B = .ok x B1) : mG ma env B = .ok (.d x) B1 := by unfold mG; rw [h]; rfl
theorem r_bag {i : Nat} (h : env[i]? = some (some .bag)) : mBag i env B = .ok .bag B := by unfold mBag; rw [h]
theorem r_nil : mNil env B = .ok [] B := rfl
theorem r_cons {a : EnvM → Bag → Res SV} {r : EnvM → Bag → Res (List SV)} {s : SV} {ss : List SV} (h : a env B = .ok s B1) (h2 : r env B1 = .ok ss B2) : mCons a r env B = .ok (s :: ss) B2 := by
  unfold mCons; rw [h]; show (r env B1).bind _ = _; rw [h2]; rfl
theorem r_tup {m : EnvM → Bag → Res (List SV)} {ss : List SV} {ds : List PD} (h : m env B = .ok ss B1) (hu : unD ss = some ds) (hl : ds.length ≤ sizeLine) : mTup m env B = .ok (.tuple ds) B1 := by
  unfold mTup; rw [h]; simp only [Res.bind, hu, hl, if_true]
theorem r_lst {m : EnvM → Bag → Res (List SV)} {ss : List SV} {ds : List PD} (h : m env B = .ok ss B1) (hu : unD ss = some ds) (hl : ds.length ≤ sizeLine) : mLst m env B = .ok (.list ds) B1 := by
  unfold mLst; rw [h]; simp only [Res.bind, hu, hl, if_true]
theorem r_ca {g : List PD → Option PD} {m : EnvM → Bag → Res (List SV)} {ss : List SV} (h : m env B = .ok ss B1) (hg : (unD ss).bind g = some z) : mCa g m env B = .ok z B1 := by
  unfold mCa; rw [h]; simp only [Res.bind, hg]
theorem r_call {np : Nat} {f : List SV → Bag → Res PD} {m : EnvM → Bag → Res (List SV)} {ss : List SV} (h : m env B = .ok ss B1) (hl : ss.length = np) (hf : f ss B1 = .ok z B2) : mCall np f m env B = .ok z B2 := by
  unfold mCall; rw [h]; simp only [Res.bind, hl, if_true, hf]
theorem r_bagIx {i n : Nat} (h : env[i]? = some (some .bag)) (e : bagIx B n = some z) : mBagIx i n env B = .ok z B := by unfold mBagIx; rw [h]; simp only [e]
theorem r_sl {ml mh : EnvM → Bag → Res (Option Int)} {lo hi : Option Int} (ha : ma env B = .ok x B1) (hl : ml env B1 = .ok lo B2) (hh : mh env B2 = .ok hi B3) (e : sliceP x lo hi = some z) : mSl ma ml mh env B = .ok z B3 := by
  unfold mSl; rw [ha]; simp only [Res.bind, hl, hh, e]
theorem r_noPart : mNoPart env B = .ok none B := rfl
theorem r_part {i : Int} (h : ma env B = .ok (.int i) B1) : mPart ma env B = .ok (some i) B1 := by unfold mPart; rw [h]; rfl
theorem r_seqL {ds : List PD} (h : ma env B = .ok (.list ds) B1) : mSeqOfS ma env B = .ok ds B1 := by unfold mSeqOfS; rw [h]; rfl
theorem r_seqT {ds : List PD} (h : ma env B = .ok (.tuple ds) B1) : mSeqOfS ma env B = .ok ds B1 := by unfold mSeqOfS; rw [h]; rfl
theorem r_range1 {m : EnvM → Bag → Res (List SV)} {j : Int} (h : m env B = .ok [.d (.int j)] B1) (hj : -(2 ^ 62) ≤ j ∧ j < 2 ^ 62) : mRange1 m env B = .ok (rangeP 0 j.toNat) B1 := by
  unfold mRange1; rw [h]; show (if _ then _ else _) = _; rw [if_pos hj]
theorem r_rev {ds : List PD} (h : ma env B = .ok (.tuple ds) B1) : mRev ma env B = .ok (.tuple ds.reverse) B1 := by unfold mRev; rw [h]; rfl
/-! statements -/
variable {a b : EnvM → Bag → SRes} {r : SRes}
theorem s_seq (h : a env B = .nx e1 B1) (h2 : b e1 B1 = r) : mSeq a b env B = r := by unfold mSeq; rw [h]; exact h2
theorem s_seqR {d : PD} (h : a env B = .ret d B1) : mSeq a b env B = .ret d B1 := by unfold mSeq; rw [h]
theorem s_set {m : EnvM → Bag → Res PD} {g : PD → EnvM → Option EnvM} (h : m env B = .ok x B1) (hg : g x env = some e1) : mSet g m env B = .nx e1 B1 := by unfold mSet; rw [h]; simp only [Res.s, hg]
theorem s_par {i j : Nat} {m : EnvM → Bag → Res (List SV)} (h : m env B = .ok [.d x, .d y] B1) : mPar i j m env B = .nx ((env.set i (some (.d x))).set j (some (.d y))) B1 := by unfold mPar; rw [h]; rfl
theorem s_ifT {m : EnvM → Bag → Res Bool} (h : m env B = .ok true B1) (h2 : a env B1 = r) : mIf m a b env B = r := by unfold mIf; rw [h]; exact h2
theorem s_ifF {m : EnvM → Bag → Res Bool} (h : m env B = .ok false B1) (h2 : b env B1 = r) : mIf m a b env B = r := by unfold mIf; rw [h]; exact h2
theorem s_ret {m : EnvM → Bag → Res PD} (h : m env B = .ok x B1) : mRet m env B = .ret x B1 := by unfold mRet; rw [h]; rfl
theorem s_skip : mSkip env B = .nx env B := rfl
theorem s_bagSet {i n : Nat} {m : EnvM → Bag → Res PD} {v : Int} (h : m env B = .ok (.int v) B1) (he : env[i]? = some (some .bag)) (hv : 0 ≤ v) (hs : bagSet B1 n v.toNat = some B2) : mBagSet i n m env B = .nx env B2 := by
  unfold mBagSet; rw [h]; simp only [Res.s, he, hv, if_true, hs]
theorem s_bagAug {i n j : Nat} {v : Int} (he : env[i]? = some (some .bag)) (hx : bagIx B n = some (.int v)) (hs : bagSet B n (v.toNat + j) = some B2) : mBagAug i n j env B = .nx env B2 := by
  unfold mBagAug; rw [he]; simp only [hx, hs]
theorem s_fn {n : Nat} {m : EnvM → Bag → SRes} {ss : List SV} {d : PD} (h : m (env0 n ss) B = .ret d B1) : mFn n m ss B = .ok d B1 := by unfold mFn; rw [h]; rfl
/-! loops -/
theorem loop_inv {g : PD → EnvM → Option EnvM} {body : EnvM → Bag → SRes} (I : EnvM → Bag → Prop) : ∀ {ds : List PD} {env : EnvM} {B : Bag}, (∀ d ∈ ds, ∀ env B, I env B → ∃ e1, g d env = some e1 ∧ ∃ e2 B2, body e1 B = .nx e2 B2 ∧ I e2 B2) → I env B → ∃ e2 B2, mLoop g body ds env B = .nx e2 B2 ∧ I e2 B2
  | [], env, B, _, i => ⟨env, B, rfl, i⟩
  | d :: ds, env, B, h, i => by
    obtain ⟨e1, h1, e2, B2, h2, i2⟩ := h d List.mem_cons_self env B i
    obtain ⟨e3, B3, h3, i3⟩ := loop_inv I (ds := ds) (fun d hd => h d (List.mem_cons_of_mem _ hd)) i2
    exact ⟨e3, B3, by unfold mLoop; simp only [h1, h2]; exact h3, i3⟩
theorem s_for {src : EnvM → Bag → Res (List PD)} {g : PD → EnvM → Option EnvM} {body : EnvM → Bag → SRes} (I : EnvM → Bag → Prop) {ds : List PD} (hs : src env B = .ok ds B1) (i : I env B1) (h : ∀ d ∈ ds, ∀ env B, I env B → ∃ e1, g d env = some e1 ∧ ∃ e2 B2, body e1 B = .nx e2 B2 ∧ I e2 B2) : ∃ e2 B2, mFor src g body env B = .nx e2 B2 ∧ I e2 B2 := by
  obtain ⟨e2, B2, h1, h2⟩ := loop_inv I h i
  exact ⟨e2, B2, by unfold mFor; rw [hs]; exact h1, h2⟩
/-- a comprehension that draws: each item by P -/
theorem lc_inv {g : PD → EnvM → Option EnvM} {m : EnvM → Bag → Res PD} {env0 : EnvM} (J : Bag → Prop) (P : PD → Prop) : ∀ {ds : List PD} {B : Bag}, (∀ d ∈ ds, ∃ e1, g d env0 = some e1 ∧ ∀ B, J B → ∃ y B2, m e1 B = .ok y B2 ∧ P y ∧ J B2) → J B → ∃ ys B2, mLcGo g mYes m env0 ds B = .ok ys B2 ∧ J B2 ∧ ys.length = ds.length ∧ ∀ y ∈ ys, P y
  | [], B, _, j => ⟨[], B, rfl, j, rfl, fun y hy => by cases hy⟩
  | d :: ds, B, h, j => by
    obtain ⟨e1, h1, hm⟩ := h d List.mem_cons_self
    obtain ⟨y, B2, h2, p, j2⟩ := hm B j
    obtain ⟨ys, B3, h3, j3, l3, p3⟩ := lc_inv J P (ds := ds) (fun d hd => h d (List.mem_cons_of_mem _ hd)) j2
    refine ⟨y :: ys, B3, ?_, j3, by simp [l3], fun z hz => ?_⟩
    · unfold mLcGo
      simp only [h1, mYes, h2, h3]
    · rcases List.mem_cons.mp hz with e | e
      · rw [e]; exact p
      · exact p3 z e
/-- a pure comprehension -/
theorem lc_pure {g : PD → EnvM → Option EnvM} {c : EnvM → Bag → Res Bool} {m : EnvM → Bag → Res PD} {env0 : EnvM} {B : Bag} (p : PD → Bool) (f : PD → PD) : ∀ {ds : List PD}, (∀ d ∈ ds, ∃ e1, g d env0 = some e1 ∧ c e1 B = .ok (p d) B ∧ (p d = true → m e1 B = .ok (f d) B)) → mLcGo g c m env0 ds B = .ok ((ds.filter p).map f) B
  | [], _ => rfl
  | d :: ds, h => by
    obtain ⟨e1, h1, h2, h3⟩ := h d List.mem_cons_self
    have ih := lc_pure p f (ds := ds) fun d hd => h d (List.mem_cons_of_mem _ hd)
    unfold mLcGo
    cases q : p d with
    | true =>
      rw [q] at h2
      simp only [h1, h2, h3 q, ih, List.filter_cons, q, if_true, List.map_cons]
    | false =>
      rw [q] at h2
      simp only [h1, h2, ih, List.filter_cons, q, Bool.false_eq_true, if_false]
theorem r_lc {vs : List Nat} {mi : EnvM → Bag → Res (List PD)} {g : PD → EnvM → Option EnvM} {c : EnvM → Bag → Res Bool} {m : EnvM → Bag → Res PD} {ds ys : List PD} (hi : mi env B = .ok ds B1) (hl : ds.length ≤ sizeLine) (h : mLcGo g c m (wipeE env vs) ds B1 = .ok ys B2) : mLc vs mi g c m env B = .ok (.list ys) B2 := by
  unfold mLc; rw [hi]; simp only [Res.bind, hl, if_true, h]
end
/-! numbers -/
theorem shaped_int (a : Int) : SeqAt.shaped (.int a) = true := by first | rfl | decide
theorem shaped_bool (a : Bool) : SeqAt.shaped (.bool a) = true := by cases a <;> first | rfl | decide
theorem eqP_int (a b : Int) : eqP (.int a) (.int b) = some (decide (a = b)) := by
  unfold eqP
  rw [if_pos ⟨shaped_int _, shaped_int _⟩]
  rfl
theorem neP_int (a b : Int) : neP (.int a) (.int b) = some (!decide (a = b)) := by
  unfold neP
  rw [if_pos ⟨shaped_int _, shaped_int _⟩]
  rfl
theorem neP_bool (a b : Bool) : neP (.bool a) (.bool b) = some (!(a == b)) := by
  unfold neP
  rw [if_pos ⟨shaped_bool _, shaped_bool _⟩]
  rfl
theorem addP_int (a b : Int) : addP (.int a) (.int b) = some (.int (a + b)) := rfl
theorem subP_int (a b : Int) : subP (.int a) (.int b) = some (.int (a - b)) := rfl
theorem ltP_int (a b : Int) : ltP (.int a) (.int b) = some (decide (a < b)) := rfl
theorem leP_int (a b : Int) : leP (.int a) (.int b) = some (decide (a ≤ b)) := rfl
theorem gtP_int (a b : Int) : gtP (.int a) (.int b) = some (decide (b < a)) := rfl
theorem geP_int (a b : Int) : geP (.int a) (.int b) = some (decide (b ≤ a)) := rfl
theorem modP_pos {a b : Int} (h : 0 < b) : modP (.int a) (.int b) = some (.int (a % b)) := by
  show (if b ≠ 0 then some (PyData.int (a.fmod b)) else none) = _
  rw [if_pos (by omega), Int.fmod_eq_emod_of_nonneg _ (by omega)]
theorem fdivP_pos {a b : Int} (h : 0 < b) (h2 : b < 1073741824) : fdivP (.int a) (.int b) = some (.int (a / b)) := by
  show (if b ≠ 0 ∧ b.natAbs < 1073741824 then some (PyData.int (a.fdiv b)) else none) = _
  rw [if_pos ⟨by omega, by omega⟩, Int.fdiv_eq_ediv_of_nonneg _ (by omega)]
theorem mulP_r {a b : Int} (h : -(2 ^ 64) < b ∧ b < 2 ^ 64) : mulP (.int a) (.int b) = some (.int (a * b)) := by
  show (if _ then _ else _) = _
  rw [if_pos (.inr h)]
theorem mulP_l {a b : Int} (h : -(2 ^ 64) < a ∧ a < 2 ^ 64) : mulP (.int a) (.int b) = some (.int (a * b)) := by
  show (if _ then _ else _) = _
  rw [if_pos (.inl h)]
theorem absP_int (a : Int) : (unD [.d (.int a)]).bind absP = some (.int (if a < 0 then -a else a)) := rfl
theorem intP_int (a : Int) : (unD [.d (.int a)]).bind intP = some (.int a) := rfl
theorem atI0 {α : Type} (d : α) (xs : List α) : atI (d :: xs) 0 = some d := by
  unfold atI ixN
  rw [if_pos (by omega), if_pos (by simp only [List.length_cons]; omega)]
  rfl
theorem atI_nat' {α : Type} {xs : List α} {j : Nat} {d : α} (h : xs[j]? = some d) : atI xs (j : Int) = some d := by
  have hj : j < xs.length := (List.getElem?_eq_some_iff.mp h).1
  unfold atI ixN
  rw [if_pos (by omega), if_pos (by omega)]
  exact h
end DL
set_option Elab.async false
set_option linter.all false
set_option maxRecDepth 100000
set_option maxHeartbeats 2000000
/-! DLA: the layer whole. -/
set_option Elab.async false
set_option linter.all false
set_option maxRecDepth 100000
set_option maxHeartbeats 4000000
namespace PySem
namespace OwnBadBytes
open PySem.W PySem.Calls PyProof.Rows PySem.PX
abbrev sI : Stmt := L2.inClass (PySem.Challenge.pw_stillsums_k38_octets_of_integers_and_che.main.body.getD 3 (.Pass ⟨0, 0, 0, 0⟩)) 0
structure Txt (P : Program) (K : Frag) (mg : Str → Option Value) (C fI cc cda : Addr) : Prop where
  gC : mg "BadBytes" = some (.ref C)
  cls : ∃ nm q N bs bm sn sub ab col dd k0 k1 k2 k3 k5, K.lookup C = some (excClassObj nm q C N bs bm true sn sub ab col dd k0 k1 k2 k3 k5 "ValueError.__new__") ∧ refsVE bm = true
  sa : findIn K (.ref C) "__setattr__" = some (some (.builtin "object.__setattr__"))
  ga : findIn K (.ref C) "__getattribute__" = some (some (.builtin "BaseException.__getattribute__"))
  gg : findIn K (.ref C) "__getattr__" = some none
  at_index : findIn K (.ref C) "index" = some none
  at_fault : findIn K (.ref C) "fault" = some none
  iC : findIn K (.ref C) "__init__" = some (some (.ref fI))
  tC : typeIn K (.ref fI) = some (.type "function")
  kC : keepIn K (.ref C) = true
  exC : subIn K (.ref C) (.type "BaseException") = some true
  tyC : typeIn K (.ref C) = some (.type "type")
  hdC : hasDictIn K C = true
  te : exmOne K (.ref C) (.ref C) = some true
  sup : ks_superIn K C C "__init__" = some (some (.builtin "ValueError.__init__"))
  subV : subIn K (.ref C) (.type "ValueError") = some true
  subC : mroIn K C (.ref C) = some true
  opq : nsIn K cStatics "thirdparty.any" = some none
  gS : mg "super" = none
  cell : ∃ cl cld csl, K.lookup cc = some ⟨cl, cld, .cell (some (.ref C)), csl⟩
  code : ∃ (ccl : Value) (cdd : Option Addr) (vs : Array Value) (ccs : Array (Option Value)) (file : Str) (tf : Tok), K.lookup cda = some ⟨ccl, cdd, .fields vs, ccs⟩ ∧ vs[2]? = some (.str file tf) ∧ ((P.main.file : Str) == file) = true
  top : (P.main.scope.names.lookup ("super" : Str)).isSome = false
  fn : ∃ (oc : Value) (od : Option Addr) (doc pm : Value) (an : Option Addr) (ct : Value) (osl : Array (Option Value)),
    K.lookup fI = some ⟨oc, od, .func (ksFn "__init__" "BadBytes.__init__" (L2.defArgs sI) (L2.defBody sI) (L2.defScope sI) .none .none doc pm an (.ref cda) ct cc), osl⟩ ∧ codeIn K (.ref cda) "BadBytes.__init__" = true
/-- what __init__ leaves of a fresh exception at x -/
structure InitEnd (h h' : Heap) (x C dx t1 : Addr) (v0 v1 : Value) : Prop where
  keep : ∀ b o, b ≠ x → h.get? b = some o → h'.get? b = some o
  obj : h'.get? x = some { cls := .ref C, dict := some dx, data := .fields #[.ref t1, .none, .none, .none, .bool false, .none] }
  dbig : h.objs.size ≤ dx
  dne : dx ≠ x
  ns : h'.Ns1 dx (fun y => if y = "fault" then some v1 else if y = "index" then some v0 else none)
/-- a made one -/
structure OwnMade (h h' : Heap) (e C d : Addr) (v0 v1 : Value) : Prop where
  keep : ∀ b o, h.get? b = some o → h'.get? b = some o
  new : h.objs.size ≤ e
  obj : ∃ oe vs, h'.get? e = some oe ∧ oe.cls = .ref C ∧ oe.dict = some d ∧ oe.data = .fields vs ∧ vs[1]? = some .none
  dbig : h.objs.size ≤ d
  dne : d ≠ e
  ns : h'.Ns1 d (fun y => if y = "fault" then some v1 else if y = "index" then some v0 else none)
theorem ldE {M : Model} {s : Shared} {env : Env} {m : Str → Option Value} {x : Str} {pos : Pos} {v : Value} {Q : Value → Shared → Prop} {A : Around} {E : Value → Shared → Prop} (hn : s.heap.Ns env.locals m) (hv : m x = some v) (h : Q v s)
    (hk : env.scope.kind = .function := by rfl) (hl : env.kindOf x = some .local := by rfl) (hd : (x == ("__debug__" : Str)) = false := by decide) :
    wpAny M A (eval (.Name x pos) env) Q E s := wpAny_Name (wpAny_loadName_local hk hl hn hv h) hd
section
variable {prog : Program} {w : World} {A : Around} {E : Value → Shared → Prop} {R : Result → Shared → Prop} {s : Shared} {K : Frag} {mg : Str → Option Value} {C fI cc cda : Addr}
/-- ValueError.__init__ bound to e, called -/
theorem call_mw {nm q : Str} {N : Addr} {bs bm : List Value} {hdct : Bool} {sn : List Str} {sub : List Value} {ab : Bool} {col : Option Bool} {dd : Option Addr} {k0 k1 k2 k3 k5 : Option Value} {u e t0 : Addr} {rest : List Value} {Q : Value → Shared → Prop} {h : Heap} {g : Array GenState} {d : Drawn} {t : Nat} {os : OsState}
    (hC : h.get? C = some (excClassObj nm q C N bs bm hdct sn sub ab col dd k0 k1 k2 k3 k5 "ValueError.__new__")) (he : h.get? e = some (excO C t0)) (hu : h.get? u = some (kxs_mw "ValueError.__init__" e)) (hrest : rest.length ≤ sizeLine)
    (hq : ∀ h' t1, (∀ b o, b ≠ e → h.get? b = some o → h'.get? b = some o) → h'.get? e = some (excO C t1) → Q .none ⟨h', g, d, t, os⟩) :
    wpAny (model prog w) A (call (.ref u) rest) Q E ⟨h, g, d, t, os⟩ := by
  refine wpAny_call (codeAny_of_tree ?_)
  show wpAny _ A.in1 (callAny (.ref u) ⟨rest, []⟩) _ _ _
  simp only [callAny]
  refine wpAny_bind (wpAny_load hu ?_)
  simp only [kxs_mw, show (Value.type "method-wrapper" == Value.type "method" || Value.type "method-wrapper" == Value.type "builtin_function_or_method" || Value.type "method-wrapper" == Value.type "method-wrapper") = true by decide, if_true]
  refine KFB.if_so (by decide) ?_
  refine wpAny_bind (check_bound_init F.excBase_ValueError.toExcCallFacts hC he rfl ?_)
  refine wpAny_bind (wpAny_pure (wpAny_pure ?_))
  refine ⟨plainId_quiet F.excBase_ValueError.init.plain _, codeAny_builtin F.excBase_ValueError.initEntry ?_⟩
  exact exc_init_tree (cls := .ref C) (t0 := t0) (dv := none) (c2 := .none) (c3 := .none) (b4 := .bool false) he hrest fun h' k e' t' => hq h' _ k e'

theorem callWith_mw {M : Model} {i : String} {pos : Pos} {u x : Addr} {env : Env} {e : Expr} {rest : List Expr} {Q : Value → Shared → Prop}
    (h : wpAny M A (spliced (backTo pos (starEach (e :: rest) env))) (fun vs s₁ => s₁.heap.get? u = some (kxs_mw i x) ∧ wpAny M A (call (.ref u) vs) Q E s₁) E s)
    (he : starEach (e :: rest) env = (false, eval e env) :: starEach rest env := by rfl) (hplain : (backTo pos (starEach rest env)).any (·.1) = false := by rfl) :
    wpAny M A (callWith pos (.ref u) [] (backTo pos (starEach (e :: rest) env)) []) Q E s := by
  rw [he] at h ⊢
  refine kxs_callWith (i := i) (x := x) (by show (false || (backTo pos (starEach rest env)).any (·.1)) = false; rw [hplain]; rfl) ?_
  exact evalArgs_plain h
theorem kept_but {K : Frag} {h h' : Heap} {x : Addr} (X : K.In h) (hx : K.lookup x = none) (k : ∀ b o, b ≠ x → h.get? b = some o → h'.get? b = some o) : K.In h' := fun a o e =>
  k a o (fun z => by rw [z, hx] at e; cases e) (X a o e)
theorem init (T : Txt prog K mg C fI cc cda) {x t0 : Addr} {v0 v1 : Value} (X : K.In s.heap) (hlim : s.heap.NoLimit) (hg : s.heap.Ns mainGlobals mg) (hb : ∃ mb, s.heap.Ns builtinsNs mb ∧ ∀ x : Str, x ≠ "__name__" → mb x = bootBuiltins x)
    (hx : s.heap.get? x = some (excO C t0)) (hnx : K.lookup x = none) (hroom : A.depth < recursionLimit)
    (hq : ∀ h' tk dx t1, InitEnd s.heap h' x C dx t1 v0 v1 → R (.ok (.ret .none)) { s with heap := h', toks := tk }) :
    codeAny (model prog w) A (.call (.ref fI) ⟨[.ref x, v0, v1], []⟩) R s := by
  obtain ⟨oc, od, doc, pm, an, ct, osl, ho, hcd⟩ := T.fn
  obtain ⟨nm, q, N, bs, bm, sn, sub, ab, col, dd, k0, k1, k2, k3, k5, hC, hbm⟩ := T.cls
  obtain ⟨ccl, cdd, vs, ccs, file, tf, hcode, hvs, hfile⟩ := T.code
  obtain ⟨cl, cld, csl, hcell⟩ := T.cell
  obtain ⟨mb, hbN, hbB⟩ := hb
  have hcl : clsIn K C = some { name := nm, bases := bs, mro := .ref C :: bm, ns := N, qualname := q, hasDict := true, slotNames := sn, subclasses := sub, abstract := ab, collection := col, hasDel := false } := by unfold clsIn; rw [hC] <;> rfl
  obtain ⟨hp, g, d, tk, os⟩ := s
  refine ks_codeAny_call_defAt (binds := [("self", .ref x), ("index", v0), ("fault", v1)]) hroom (X _ _ ho) rfl hlim (codeRec_of X hcd) rfl (BindsTo.of_eq (by first | rfl | with_unfolding_all rfl)) (show ∀ x ∈ (L2.defScope sI).names, x.2 ≠ .cell by decide) (by intro y hy; simp at hy; rcases hy with h | h | h <;> subst h <;> rfl) (fun h₁ hn k => ?_)
  have hxL : hp.objs.size ≠ x := Nat.ne_of_gt (Heap.lt_size hx)
  have X₁ : K.In h₁ := X.keeps k
  have hx₁ := k _ _ hx
  have hxC : x ≠ C := fun z => by rw [z, hC] at hnx; cases hnx
  show wpAt _ _ (.func _ (ksEnv "BadBytes.__init__" (L2.defScope sI) hp.objs.size fI (.ref cda) cc)) (execs _ (ksEnv "BadBytes.__init__" (L2.defScope sI) hp.objs.size fI (.ref cda) cc)) _ _ _
  refine ks_wpAt_execs_cons (ks_wpAt_Expr_any (ks_wpAt_MethodCall ?_))
  have hC₁ : h₁.get? C = some _ := X₁ _ _ hC
  refine ks_wpAt_super_base (env := ksEnv "BadBytes.__init__" (L2.defScope sI) hp.objs.size fI (.ref cda) cc) rfl rfl (by decide) rfl (X₁ _ _ ho) rfl rfl rfl (X₁ _ _ hcode) rfl hvs hfile T.top ?_
  refine ks_loadName_global rfl rfl (loadGlobal_builtin (env := ksEnv "BadBytes.__init__" (L2.defScope sI) hp.objs.size fI (.ref cda) cc) (hg.at fun o e => k _ o e) T.gS (hbN.at fun o e => k _ o e) ((hbB _ (by decide +kernel)).trans (show bootBuiltins "super" = some (.type "super") by decide +kernel)) ⟨rfl, ?_⟩)
  refine wpAny_loadName_free rfl rfl rfl ⟨_, X₁ _ _ hcell, rfl⟩ ?_
  refine wpAny_loadName_local rfl rfl hn rfl ?_
  refine ks_wpAny_isType_cls hC₁ rfl ⟨rfl, ?_⟩
  refine ks_wpAny_call_super hC₁ rfl hx₁ rfl (fun c e => by cases e) (looks_mroIn X₁ T.subC) (fun h₂ e₂ k₂ => ?_)
  have X₂ : K.In h₂ := X₁.keeps k₂
  have hx₂ := k₂ _ _ hx₁
  have I₂ : InstAt h₂ x (excO C t0) C none := ⟨hx₂, rfl, rfl, trivial⟩
  have hI : Looks (model prog w) h₂ (isInstance (.ref x) (.type "ValueError")) true := I₂.type.andThen (looks_subIn X₂ T.subV)
  have hsup : alongIn K "__init__" ((((.ref C :: bm : List Value)).dropWhile (· != .ref C)).drop 1) = some (some (.builtin "ValueError.__init__")) := by
    have q := T.sup
    unfold ks_superIn at q
    rw [hcl] at q
    exact q
  refine kxs_getMethod kxs_ValueError e₂ (looks_opaque X₂ T.opq) (l₀ := .ref C :: bm) (fun A Q E s k q => wpAny_bind ((looks_clsIn X₂ hcl) A _ E s k (wpAny_pure q))) rfl X₂ hsup hI hxC (by decide) ?_
  have k₃ : ∀ b o, h₂.get? b = some o → (h₂.push (kxs_mw "ValueError.__init__" x)).get? b = some o := fun b o e => Heap.get?_push_of_some _ e
  generalize hh₃ : h₂.push (kxs_mw "ValueError.__init__" x) = h₃ at k₃ ⊢
  have hu₃ : h₃.get? h₂.objs.size = some (kxs_mw "ValueError.__init__" x) := by rw [← hh₃]; exact Heap.get?_push_at rfl rfl
  have k13 : ∀ b o, h₁.get? b = some o → h₃.get? b = some o := fun b o e => k₃ b o (k₂ b o e)
  have hn₃ := hn.at fun o e => k13 _ o e
  have hx₃ := k13 _ _ hx₁
  have X₃ : K.In h₃ := X₁.keeps k13
  have hC₃ := X₃ _ _ hC
  refine callWith_mw (i := "ValueError.__init__") (x := x) (args_cons (ldE (v := v0) hn₃ (by first | rfl | with_unfolding_all rfl | kernel_rfl) (args_cons (ldE (v := v1) hn₃ (by first | rfl | with_unfolding_all rfl | kernel_rfl) (args_nil ⟨hu₃, ?_⟩)))))
  refine call_mw hC₃ hx₃ hu₃ (show 2 ≤ sizeLine by decide) (fun h₄ t1 k₄ hx₄ => ?_)
  have X₄ : K.In h₄ := kept_but X₃ hnx k₄
  have hn₄ := hn₃.at fun o e => k₄ _ o hxL e
  refine ks_wpAt_execs_cons (wpAt_of_wpAny (plainObj_wpAny_Assign_Attribute ?_))
  refine ldE (v := v0) hn₄ (by first | rfl | with_unfolding_all rfl | kernel_rfl) (ldE (v := .ref x) hn₄ (by first | rfl | with_unfolding_all rfl | kernel_rfl) ?_)
  refine set_plain X₄ (ox := excO C t1) (od := none) ⟨hx₄, rfl, rfl, trivial⟩ T.sa ?_
  refine exc_osa X₄ hx₄ hcl (show refsVE (.ref C :: bm) = true from hbm) rfl T.at_index (fun h₅ tk₅ dx k₅ dn dne hx₅ hns₅ => ?_)
  have X₅ : K.In h₅ := kept_but X₄ hnx k₅
  have hn₅ := hn₄.at fun o e => k₅ _ o hxL e
  have lt₄ : hp.objs.size < h₄.objs.size := hn₄.lt
  have up₅ : ∀ b o, b ≠ x → hp.get? b = some o → h₅.get? b = some o := fun b o hb e => k₅ b o hb (k₄ b o hb (k13 b o (k b o e)))
  obtain ⟨oD, esD, epD, hoD, hdD, _⟩ := hns₅.count (Within.cons _ _ Within.nil)
  refine ks_wpAt_execs_cons (wpAt_of_wpAny (plainObj_wpAny_Assign_Attribute ?_))
  refine ldE (v := v1) hn₅ (by first | rfl | with_unfolding_all rfl | kernel_rfl) (ldE (v := .ref x) hn₅ (by first | rfl | with_unfolding_all rfl | kernel_rfl) ?_)
  refine set_plain X₅ (od := some oD) ⟨hx₅, rfl, rfl, hoD⟩ T.sa ?_
  refine osa_old X₅ hx₅ hns₅ (Within.cons _ _ Within.nil) (by decide) hcl (show refsVE (.ref C :: bm) = true from hbm) rfl T.at_fault (fun h₆ tk₆ k₆ hns₆ => ?_)
  refine wpAt_of_wpAny (wpAny_execs_nil (hq h₆ tk₆ dx t1 ⟨fun b o hb e => k₆ b o (Nat.ne_of_lt (Nat.lt_of_lt_of_le (Nat.lt_trans (Heap.lt_size e) lt₄) dn)) (up₅ b o hb e), k₆ _ _ dne.symm hx₅, Nat.le_trans (Nat.le_of_lt lt₄) dn, dne, hns₆⟩))
theorem made (T : Txt prog K mg C fI cc cda) {v0 v1 : Value} (X : K.In s.heap) (hlim : s.heap.NoLimit) (hg : s.heap.Ns mainGlobals mg) (hb : ∃ mb, s.heap.Ns builtinsNs mb ∧ ∀ x : Str, x ≠ "__name__" → mb x = bootBuiltins x) (hroom : A.depth + 1 < recursionLimit)
    (hq : ∀ h' tk e d, OwnMade s.heap h' e C d v0 v1 → R (.ok (.ret (.ref e))) { s with heap := h', toks := tk }) :
    codeAny (model prog w) A (.call (.ref C) ⟨[v0, v1], []⟩) R s := by
  obtain ⟨nm, q, N, bs, bm, sn, sub, ab, col, dd, k0, k1, k2, k3, k5, hC, hbm⟩ := T.cls
  obtain ⟨mb, hbN, hbB⟩ := hb
  obtain ⟨hp, g, dr, tk, os⟩ := s
  have k : ∀ b o, hp.get? b = some o → ((hp.push (kdv_tup [v0, v1])).push (excO C hp.objs.size)).get? b = some o := fun b o e => Heap.get?_push_of_some _ (Heap.get?_push_of_some _ e)
  have hget : ((hp.push (kdv_tup [v0, v1])).push (excO C hp.objs.size)).get? (hp.objs.size + 1) = some (excO C hp.objs.size) := by heap_get
  have hnx : K.lookup (hp.objs.size + 1) = none := by
    cases e : K.lookup (hp.objs.size + 1) with
    | none => rfl
    | some o =>
      have z : hp.get? (hp.objs.size + 1) = some o := X _ _ e
      exact absurd (Nat.lt_of_succ_lt (Heap.lt_size z)) (Nat.lt_irrefl _)
  refine call_own F.excBase_ValueError (fun X => refsVE_contains X bm hbm) (X _ _ hC) (looks_findIn X T.iC) (fun self => bind_fn X self T.tC) (show 2 ≤ sizeLine by decide) ?_
  refine init (s := ⟨(hp.push (kdv_tup [v0, v1])).push (excO C hp.objs.size), g, dr, tk, os⟩) T (X.keeps k) (hlim.keeps k) (hg.at fun o e => k _ o e) ⟨mb, hbN.at fun o e => k _ o e, hbB⟩ hget hnx ?_ fun h' tk' dx t1 ⟨k', hx, dn, dne, hns⟩ => ?_
  · show A.depth + 1 < recursionLimit
    exact hroom
  · have old : ∀ b o, hp.get? b = some o → h'.get? b = some o := fun b o e => k' b o (Nat.ne_of_lt (Nat.lt_succ_of_lt (Heap.lt_size e))) (k b o e)
    have z : hp.objs.size + 1 + 1 ≤ dx := by
      first
        | (simpa only [Heap.size_push] using dn)
        | exact dn
        | (have q := dn; rw [Heap.size_push, Heap.size_push] at q; exact q)
    exact ⟨rfl, hq h' tk' (hp.objs.size + 1) dx ⟨old, Nat.le_succ _, ⟨_, _, hx, rfl, rfl, rfl, rfl⟩, Nat.le_trans (Nat.le_trans (Nat.le_succ _) (Nat.le_succ _)) z, dne, hns⟩⟩
end
end OwnBadBytes
end PySem
namespace DL
open PySem PySem.Spec PyProof.Rows L2
abbrev fs_BadBytes (a0 a1 : V) : List (Str × V) := [(("fault" : Str), a1), (("index" : Str), a0)]
theorem relO_BadBytes {a0 a1 : V} {u0 u1 : Value} (r0 : RelV a0 u0) (r1 : RelV a1 u1) (y : Str) : RelO (List.lookup y (fs_BadBytes a0 a1)) (if y = "fault" then some u1 else if y = "index" then some u0 else none) := by
  by_cases h1 : y = "fault"
  · subst h1
    rw [if_pos rfl]
    first
      | exact r1
      | (have q : List.lookup ("fault" : Str) (fs_BadBytes a0 a1) = some a1 := by simp [List.lookup]
         rw [q]
         exact r1)
  rw [if_neg h1]
  by_cases h0 : y = "index"
  · subst h0
    rw [if_pos rfl]
    first
      | exact r0
      | (have q : List.lookup ("index" : Str) (fs_BadBytes a0 a1) = some a0 := by simp [List.lookup]
         rw [q]
         exact r0)
  rw [if_neg h0]
  have q2 : List.lookup y (fs_BadBytes a0 a1) = none := by
    have z0 : (y == ("index" : Str)) = false := by simpa using h0
    have z1 : (y == ("fault" : Str)) = false := by simpa using h1
    simp [List.lookup, z0, z1]
  rw [q2]
  trivial
section
variable {X : Cx} {C fI cc cda : Addr}
/-- BadBytes(..) -/
def fsV_BadBytes : List V → Option (List (Str × V))
  | [a0, a1] => some (fs_BadBytes a0 a1)
  | _ => none
def fsP_BadBytes : List PD → Option (List (Str × PD))
  | [d0, d1] => some [(("fault" : Str), d1), (("index" : Str), d0)]
  | _ => none
theorem fsok_BadBytes {K : Fg} (G : Hp) (vs : List V) (ds : List PD) (as : List (Str × PD)) (r : DRs K G vs ds) (h : fsP_BadBytes ds = some as) : ∃ fs, fsV_BadBytes vs = some fs ∧ Fs K G fs as := by
  unfold fsP_BadBytes at h
  split at h
  · cases h
    match vs, r with
    | _, .cons h0 (.cons h1 (.nil)) => exact ⟨_, rfl, .cons h1 (.cons h0 (.nil))⟩
  · cases h
theorem pmk_BadBytes {a : Expr} {as : List Expr} {ta : TA} {p pos : Pos} {k : Nat} (T : PySem.OwnBadBytes.Txt X.prog X.K X.mg C fI cc cda) (hr : Room k X.A) (ha : PA X (a :: as) ta) (hg : Gl X "BadBytes" := by rfl)
    (he : starEach (a :: as) X.env = (false, eval a X.env) :: starEach as X.env := by rfl) (hpl : (backTo pos (starEach as X.env)).any (·.1) = false := by rfl) :
    PMk X (.Call (.Name "BadBytes" p) (a :: as) [] pos) (tMkX C fsV_BadBytes ta) := by
  intro pins s σ H Q I h
  refine wpAny_Call_Name_kw (ld_glob I hg T.gC ?_)
  refine PySem.W.callWith_K (h₀ := X.base) I.ok.mod.kin T.kC (thn (ha.run pos pins s σ H _ I h) fun us s1 hh => ?_) he hpl
  obtain ⟨vs, H1, I1, r1, fs, ef, q1⟩ := hh
  obtain ⟨a0, a1, rfl, rfl⟩ : ∃ a0 a1 : V, vs = [a0, a1] ∧ fs = fs_BadBytes a0 a1 := by
    unfold fsV_BadBytes at ef
    split at ef
    · cases ef; exact ⟨_, _, rfl, rfl⟩
    · cases ef
  refine ⟨I1.kIn, ?_⟩
  obtain ⟨u0, u1, rfl, rv0, rv1⟩ : ∃ u0 u1, us = [u0, u1] ∧ RelV a0 u0 ∧ RelV a1 u1 := by
    obtain ⟨u0, u1, e, q0, q1⟩ := vals2 r1; exact ⟨u0, u1, e, q0, q1⟩
  show wpAny _ _ (call (.ref C) [u0, u1]) _ _ _
  have hlim := I1.nolimit
  have hgl : s1.heap.Ns mainGlobals X.mg := I1.ok.mod.glob.at fun o e => (I1.bs _ o e).1
  obtain ⟨mb, hb1, hb2⟩ := I1.ok.mod.blt
  have hbl : s1.heap.Ns builtinsNs mb := hb1.at fun o e => (I1.bs _ o e).1
  obtain ⟨hp, g, dr, tk, os⟩ := s1
  refine wpAny_call (PySem.OwnBadBytes.made T I1.kIn hlim hgl ⟨mb, hbl, hb2⟩ (by have := hr.dp; omega) fun h' tk' e d M => ?_)
  show MkP X pins σ Q (.ref e) ⟨h', g, dr, tk', os⟩
  obtain ⟨oe, fv, hoe, hc, hd, hdat, h1⟩ := M.obj
  have hns := M.ns
  obtain ⟨G', g1, g2⟩ := restrict h' fun b => decide (b ≠ e)
  have gk : ∀ b, b ≠ e → G'.get? b = h'.get? b := fun b hb => g1 b (decide_eq_true hb)
  have ge : G'.get? e = none := g2 e (by simp)
  have old : ∀ b o, hp.get? b = some o → G'.get? b = some o := fun b o q => (gk b (Nat.ne_of_lt (Nat.lt_of_lt_of_le (Heap.lt_size q) M.new))).trans (M.keep b o q)
  have ob : ObjOk X.prog X.w (upd H1 d (.xd (fs_BadBytes a0 a1))) G' d (.xd (fs_BadBytes a0 a1)) :=
    ⟨_, hns.at (fun o q => (gk d M.dne).trans q), fun f => relO_BadBytes rv0 rv1 f⟩
  have J : Inv X pins σ (upd H1 d (.xd (fs_BadBytes a0 a1))) ⟨G', g, dr, tk', os⟩ := I1.laid (t' := tk') old M.dbig ob
  refine ⟨e, oe, fv, ⟨G', g, dr, tk', os⟩, _, .ref C, some d, rfl, J, fun b o q => ?_, ge, hoe, ⟨hc, hd⟩, hdat, h1, ?_, rfl, I1.bare, raises_own T.exC T.tyC, q1 d (I1.hok.fresh M.dbig)⟩
  · by_cases hb : b = e
    · have q' : G'.get? b = some o := q
      rw [hb, ge] at q'; cases q'
    · exact (gk b hb).symm.trans q
  · rw [upd_ne (Ne.symm M.dne)]
    exact I1.hok.fresh M.new
theorem ps_raise_BadBytes {a : Expr} {as : List Expr} {ta : TA} {W : WX} {p pos pos2 : Pos} {k : Nat} (hc : X.calm = true) (T : PySem.OwnBadBytes.Txt X.prog X.K X.mg C fI cc cda) (hr : Room k X.A) (tk : Takes X W) (ha : PA X (a :: as) ta) (hg : Gl X "BadBytes" := by rfl)
    (he : starEach (a :: as) X.env = (false, eval a X.env) :: starEach as X.env := by rfl) (hpl : (backTo pos (starEach as X.env)).any (·.1) = false := by rfl) :
    PS X (.Raise (some (.Call (.Name "BadBytes" p) (a :: as) [] pos)) none pos2) (fun _ σ H => tMkX C fsV_BadBytes ta σ H fun cls d H' => W cls d σ H') := ps_raise hc tk (pmk_BadBytes T hr ha hg he hpl)
end
end DL
set_option Elab.async false
set_option linter.all false
set_option maxRecDepth 100000
set_option maxHeartbeats 4000000
namespace DL
open PySem L2
/-! ### the mirrors -/
def d_CHECK : PD := .int 4
def d_FACTOR : PD := .int 257
def d_GROUP : PD := .int 7
def d_HALF : PD := .int 128
def d_MODULUS : PD := .int 4294967291
def g__law_octets : Deed → Bag → Res PD := mTold "told" "BadBytes" (mhStr "bytes" (mhBy "index" (mhBy "fault" mhNil)))
noncomputable def b__wall : EnvM → Bag → SRes := (mWhile (mTru truP (mC (.bool true))) mSkip)
noncomputable def f__wall : List SV → Bag → Res PD := mFn 1 b__wall
noncomputable def b_integer_octets : EnvM → Bag → SRes := (mSeq (mOwn 1 mNil)
  (mSeq (mWhile (mCmp geP (mVar 0) (mC d_HALF)) (mSeq (mApp 1 (mOp addP (mC d_HALF) (mOp andP (mVar 0) (mOp subP (mC d_HALF) (mC (.int 1))))))
  (mAugG 0 shrP (mC d_GROUP))))
  (mFz 1 (mRet (mTup (mStar (mVar 1) (mCons (mG (mVar 0)) mNil)))))))
noncomputable def f_integer_octets : List SV → Bag → Res PD := mFn 2 b_integer_octets
def b_bits_of : EnvM → Bag → SRes := (mRet (mJoin (mC (.str "")) (mLc [1] (mRange1 (mCons (mG (mC d_GROUP)) mNil)) (mgName 1) mYes (mIfE (mTru truP (mOp andP (mVar 0) (mOp shrP (mOp fdivP (mC d_HALF) (mC (.int 2))) (mVar 1)))) (mC (.str "1")) (mC (.str "0"))))))
def f_bits_of : List SV → Bag → Res PD := mFn 2 b_bits_of
noncomputable def b_read_integer : EnvM → Bag → SRes := (mSeq (mSet (mgName 2) (mVar 1))
  (mSeq (mWhile (mAnd (mCmp ltP (mVar 2) (mCa lenP (mCons (mG (mVar 0)) mNil))) (mCmp geP (mOp ixP (mVar 0) (mVar 2)) (mC d_HALF))) (mAug 2 (fun i j => i + j) (mC (.int 1))))
  (mSeq (mIf (mOr (mCmp eqP (mVar 2) (mCa lenP (mCons (mG (mVar 0)) mNil))) (mAnd (mCmp eqP (mOp ixP (mVar 0) (mVar 2)) (mC (.int 0))) (mCmp gtP (mVar 2) (mVar 1)))) (mRaise "BadBytes" fsP_BadBytes (mCons (mG (mVar 1)) (mCons (mG (mC (.str "integer"))) mNil))) mSkip)
  (mRet (mTup (mCons (mG (mCa intBinP (mCons (mG (mJoin (mC (.str "")) (mLc [3] (mSeqOfS (mRev (mSl (mVar 0) (mPart (mVar 1)) (mPart (mOp addP (mVar 2) (mC (.int 1))))))) (mgName 3) mYes (mCall 1 f_bits_of (mCons (mG (mVar 3)) mNil))))) (mCons (mG (mC (.int 2))) mNil)))) (mCons (mG (mOp addP (mVar 2) (mC (.int 1)))) mNil)))))))
noncomputable def f_read_integer : List SV → Bag → Res PD := mFn 4 b_read_integer
def b_check_of : EnvM → Bag → SRes := (mSeq (mSet (mgName 1) (mC (.int 1)))
  (mSeq (mFor (mSeqOfS (mVar 0)) (mgName 2) (mSet (mgName 1) (mOp modP (mOp addP (mOp addP (mOp mulAP (mVar 1) (mC d_FACTOR)) (mVar 2)) (mC (.int 1))) (mC d_MODULUS))))
  (mRet (mVar 1))))
def f_check_of : List SV → Bag → Res PD := mFn 3 b_check_of
def b_sealed : EnvM → Bag → SRes := (mSeq (mSet (mgName 1) (mCall 1 f_check_of (mCons (mG (mVar 0)) mNil)))
  (mRet (mTup (mStar (mVar 0) (mCons (mG (mOp shrP (mVar 1) (mC (.int 24)))) (mCons (mG (mOp andP (mOp shrP (mVar 1) (mC (.int 16))) (mC (.int 255)))) (mCons (mG (mOp andP (mOp shrP (mVar 1) (mC (.int 8))) (mC (.int 255)))) (mCons (mG (mOp andP (mVar 1) (mC (.int 255)))) mNil))))))))
def f_sealed : List SV → Bag → Res PD := mFn 2 b_sealed
def b_is_sealed : EnvM → Bag → SRes := (mRet (mAndV (mB (mCmp geP (mCa lenP (mCons (mG (mVar 0)) mNil)) (mC d_CHECK))) (mB (mCmp eqP (mCall 1 f_sealed (mCons (mG (mSl (mVar 0) mNoPart (mPart (mOp subP (mCa lenP (mCons (mG (mVar 0)) mNil)) (mC d_CHECK))))) mNil)) (mCa tupleP (mCons (mG (mVar 0)) mNil))))))
def f_is_sealed : List SV → Bag → Res PD := mFn 1 b_is_sealed
def b__law_take : EnvM → Bag → SRes := (mSeq (mIf (mCmp eqP (mBagIx 0 0) (mC (.int 0))) (mSeq (mSet (mgName 2) (mOp ixP (mOp addP (mSl (mBagIx 0 3) (mPart (mBagIx 0 2)) mNoPart) (mLst (mCons (mG (mC (.int 0))) mNil))) (mC (.int 0))))
  (mSeq (mBagAug 0 2 1)
  (mSeq (mIf (mCmp geP (mVar 2) (mOp powP (mC (.int 10)) (mC (.int 18)))) (mBagSet 0 0 (mVar 2)) mSkip)
  (mSeq (mSet (mgName 3) (mOp addP (mOp addP (mOp mulAP (mBagIx 0 1) (mC (.int 48271))) (mOp modP (mCa intP (mCons (mG (mVar 2)) mNil)) (mC (.int 2147483647)))) (mOp mulAP (mC (.int 7919)) (mBagIx 0 2))))
  (mBagSet 0 1 (mOp modP (mCa intP (mCons (mG (mVar 3)) mNil)) (mC (.int 2147483647)))))))) mSkip)
  (mSeq (mIf (mCmp gtP (mBagIx 0 0) (mC (.int 0))) (mSeq (mSet (mgName 4) (mOp modP (mCa intP (mCons (mG (mBagIx 0 0)) mNil)) (mVar 1)))
  (mSeq (mBagSet 0 0 (mOp fdivP (mCa intP (mCons (mG (mBagIx 0 0)) mNil)) (mVar 1)))
  (mRet (mVar 4)))) mSkip)
  (mSeq (mSet (mgName 5) (mOp modP (mCa intP (mCons (mG (mOp mulAP (mOp addP (mBagIx 0 1) (mC (.int 1))) (mC (.int 39373)))) mNil)) (mC (.int 1000000007))))
  (mSeq (mSet (mgName 6) (mOp modP (mCa intP (mCons (mG (mOp mulAP (mOp modP (mCa intP (mCons (mG (mOp mulAP (mVar 5) (mVar 5))) mNil)) (mC (.int 998244353))) (mC (.int 30011)))) mNil)) (mC (.int 998244353))))
  (mRet (mOp modP (mCa intP (mCons (mG (mOp fdivP (mVar 6) (mC (.int 7)))) mNil)) (mVar 1)))))))
def f__law_take : List SV → Bag → Res PD := mFn 7 b__law_take
def b__law_some : EnvM → Bag → SRes := (mRet (mOp ixP (mVar 1) (mCall 2 f__law_take (mCons (mBag 0) (mCons (mG (mCa lenP (mCons (mG (mVar 1)) mNil))) mNil)))))
def f__law_some : List SV → Bag → Res PD := mFn 2 b__law_some
noncomputable def b__law_alike : EnvM → Bag → SRes := (mSeq (mParOwn 2 3 (mCons (mG (mTup (mCons (mG (mVar 0)) (mCons (mG (mVar 1)) mNil)))) mNil) (mC (.int 0)))
  (mSeq (mWhile (mCmp ltP (mVar 3) (mLenOwn 2)) (mSeq (mSet (mgTup (mgCons (mgName 4) (mgCons (mgName 5) mgNil)) 2) (mIxOwn 2 (mVar 3)))
  (mSeq (mAug 3 (fun i j => i + j) (mC (.int 1)))
  (mSeq (mIf (mOr (mCmp neP (mIsi isBoolB (mVar 4)) (mIsi isBoolB (mVar 5))) (mCmp neP (mIsi isStrB (mVar 4)) (mIsi isStrB (mVar 5)))) (mRet (mC (.bool false))) mSkip)
  (mSeq (mIf (mCmp neP (mIsi2 isTupB isListB (mVar 4)) (mIsi2 isTupB isListB (mVar 5))) (mRet (mC (.bool false))) mSkip)
  (mIf (mTru truP (mIsi2 isTupB isListB (mVar 4))) (mSeq (mIf (mOr (mCmp neP (mIsi isTupB (mVar 4)) (mIsi isTupB (mVar 5))) (mCmp neP (mCa lenP (mCons (mG (mVar 4)) mNil)) (mCa lenP (mCons (mG (mVar 5)) mNil)))) (mRet (mC (.bool false))) mSkip)
  (mExt 2 (mCa zipP (mCons (mG (mVar 4)) (mCons (mG (mVar 5)) mNil))))) (mIf (mCmp neP (mVar 4) (mVar 5)) (mRet (mC (.bool false))) mSkip)))))))
  (mRet (mC (.bool true)))))
noncomputable def f__law_alike : List SV → Bag → Res PD := mFn 6 b__law_alike
noncomputable def b__law_integer : EnvM → Bag → SRes := (mSeq (mOwn 1 mNil)
  (mSeq (mWhile (mCmp gtP (mVar 0) (mC (.int 127))) (mSeq (mApp 1 (mOp addP (mC (.int 128)) (mOp modP (mCa intP (mCons (mG (mVar 0)) mNil)) (mC (.int 128)))))
  (mSet (mgName 0) (mOp fdivP (mCa intP (mCons (mG (mVar 0)) mNil)) (mC (.int 128))))))
  (mFz 1 (mRet (mCa tupleP (mCons (mG (mOp addP (mVar 1) (mLst (mCons (mG (mVar 0)) mNil)))) mNil))))))
noncomputable def f__law_integer : List SV → Bag → Res PD := mFn 2 b__law_integer
def b__law_check : EnvM → Bag → SRes := (mSeq (mSet (mgName 1) (mC (.int 1)))
  (mSeq (mFor (mSeqOfS (mVar 0)) (mgName 2) (mSet (mgName 1) (mOp modP (mCa intP (mCons (mG (mOp addP (mOp addP (mOp mulAP (mVar 1) (mC (.int 257))) (mVar 2)) (mC (.int 1)))) mNil)) (mC (.int 4294967291)))))
  (mRet (mVar 1))))
def f__law_check : List SV → Bag → Res PD := mFn 3 b__law_check
def b__law_sealed : EnvM → Bag → SRes := (mSeq (mParM 1 2 (mG (mCall 1 f__law_check (mCons (mG (mVar 0)) mNil))) (mML mNil))
  (mSeq (mFor (mRange1 (mCons (mG (mC (.int 4))) mNil)) (mgName 3) (mSeq (mApp 2 (mOp modP (mCa intP (mCons (mG (mVar 1)) mNil)) (mC (.int 256))))
  (mSet (mgName 1) (mOp fdivP (mCa intP (mCons (mG (mVar 1)) mNil)) (mC (.int 256))))))
  (mFz 2 (mRet (mOp addP (mCa tupleP (mCons (mG (mVar 0)) mNil)) (mCa tupleP (mCons (mG (mRevL (mVar 2))) mNil)))))))
def f__law_sealed : List SV → Bag → Res PD := mFn 4 b__law_sealed
/- number = _law_some(bag, [_law_take(bag, 200), _law_take(bag, 10 ** 9), 127, 128, 16384, 10 ** 60 + _law_take(bag, 10 ** 9)]) -/
noncomputable def ml_0 : EnvM → Bag → SRes := (mSet (mgName 3) (mCall 2 f__law_some (mCons (mBag 1) (mCons (mG (mLst (mCons (mG (mCall 2 f__law_take (mCons (mBag 1) (mCons (mG (mC (.int 200))) mNil)))) (mCons (mG (mCall 2 f__law_take (mCons (mBag 1) (mCons (mG (mOp powP (mC (.int 10)) (mC (.int 9)))) mNil)))) (mCons (mG (mC (.int 127))) (mCons (mG (mC (.int 128))) (mCons (mG (mC (.int 16384))) (mCons (mG (mOp addP (mOp powP (mC (.int 10)) (mC (.int 60))) (mCall 2 f__law_take (mCons (mBag 1) (mCons (mG (mOp powP (mC (.int 10)) (mC (.int 9)))) mNil))))) mNil)))))))) mNil))))
/- row, ahead = (_law_integer(number), tuple([_law_take(bag, 256) for one in range(_law_take(bag, 5))])) -/
noncomputable def ml_1 : EnvM → Bag → SRes := (mSet (mgTup (mgCons (mgName 4) (mgCons (mgName 5) mgNil)) 2) (mTup (mCons (mG (mCall 1 f__law_integer (mCons (mG (mVar 3)) mNil))) (mCons (mG (mCa tupleP (mCons (mG (mLc [14] (mRange1 (mCons (mG (mCall 2 f__law_take (mCons (mBag 1) (mCons (mG (mC (.int 5))) mNil)))) mNil)) (mgName 14) mYes (mCall 2 f__law_take (mCons (mBag 1) (mCons (mG (mC (.int 256))) mNil))))) mNil))) mNil))))
/- return False -/
noncomputable def ml_2 : EnvM → Bag → SRes := (mRet (mC (.bool false)))
/- if not _law_alike([integer_octets(number), read_integer(ahead + row + (5,), len(ahead))], [row, (number, len(ahead) + len(row))]): -/
noncomputable def ml_3 : EnvM → Bag → SRes := (mIf (mNot (mTru truP (mCall 2 f__law_alike (mCons (mG (mLst (mCons (mG (mCall 1 f_integer_octets (mCons (mG (mVar 3)) mNil))) (mCons (mG (mCallE 2 f_read_integer (mCons (mG (mOp addP (mOp addP (mVar 5) (mVar 4)) (mTup (mCons (mG (mC (.int 5))) mNil)))) (mCons (mG (mCa lenP (mCons (mG (mVar 5)) mNil))) mNil)))) mNil)))) (mCons (mG (mLst (mCons (mG (mVar 4)) (mCons (mG (mTup (mCons (mG (mVar 3)) (mCons (mG (mOp addP (mCa lenP (mCons (mG (mVar 5)) mNil)) (mCa lenP (mCons (mG (mVar 4)) mNil)))) mNil)))) mNil)))) mNil))))) ml_2 mSkip)
/- found = _law_octets(lambda: read_integer(ahead + row[:-1], len(ahead))) -/
noncomputable def ml_4 : EnvM → Bag → SRes := (mSet (mgName 6) (mLam g__law_octets (mCallE 2 f_read_integer (mCons (mG (mOp addP (mVar 5) (mSl (mVar 4) mNoPart (mPart (mNeg (mC (.int 1))))))) (mCons (mG (mCa lenP (mCons (mG (mVar 5)) mNil))) mNil)))))
/- return False -/
noncomputable def ml_5 : EnvM → Bag → SRes := (mRet (mC (.bool false)))
/- if found != ('bytes', len(ahead), 'integer'): -/
noncomputable def ml_6 : EnvM → Bag → SRes := (mIf (mCmp neP (mVar 6) (mTup (mCons (mG (mC (.str "bytes"))) (mCons (mG (mCa lenP (mCons (mG (mVar 5)) mNil))) (mCons (mG (mC (.str "integer"))) mNil))))) ml_5 mSkip)
/- long = row[:-1] + (int(row[-1]) + 128, 0) -/
noncomputable def ml_7 : EnvM → Bag → SRes := (mSet (mgName 7) (mOp addP (mSl (mVar 4) mNoPart (mPart (mNeg (mC (.int 1))))) (mTup (mCons (mG (mOp addP (mCa intP (mCons (mG (mOp ixP (mVar 4) (mNeg (mC (.int 1))))) mNil)) (mC (.int 128)))) (mCons (mG (mC (.int 0))) mNil)))))
/- found = _law_octets(lambda: read_integer(ahead + long, len(ahead))) -/
noncomputable def ml_8 : EnvM → Bag → SRes := (mSet (mgName 6) (mLam g__law_octets (mCallE 2 f_read_integer (mCons (mG (mOp addP (mVar 5) (mVar 7))) (mCons (mG (mCa lenP (mCons (mG (mVar 5)) mNil))) mNil)))))
/- return False -/
noncomputable def ml_9 : EnvM → Bag → SRes := (mRet (mC (.bool false)))
/- if found != ('bytes', len(ahead), 'integer'): -/
noncomputable def ml_10 : EnvM → Bag → SRes := (mIf (mCmp neP (mVar 6) (mTup (mCons (mG (mC (.str "bytes"))) (mCons (mG (mCa lenP (mCons (mG (mVar 5)) mNil))) (mCons (mG (mC (.str "integer"))) mNil))))) ml_9 mSkip)
/- if len(row) > 1: -/
noncomputable def ml_11 : EnvM → Bag → SRes := (mIf (mCmp gtP (mCa lenP (mCons (mG (mVar 4)) mNil)) (mC (.int 1))) (mSeq ml_7
  (mSeq ml_8
  ml_10)) mSkip)
/- octets = tuple([_law_take(bag, 256) for one in range(_law_take(bag, 20))]) -/
noncomputable def ml_12 : EnvM → Bag → SRes := (mSet (mgName 8) (mCa tupleP (mCons (mG (mLc [14] (mRange1 (mCons (mG (mCall 2 f__law_take (mCons (mBag 1) (mCons (mG (mC (.int 20))) mNil)))) mNil)) (mgName 14) mYes (mCall 2 f__law_take (mCons (mBag 1) (mCons (mG (mC (.int 256))) mNil))))) mNil)))
/- whole = _law_sealed(octets) -/
noncomputable def ml_13 : EnvM → Bag → SRes := (mSet (mgName 9) (mCall 1 f__law_sealed (mCons (mG (mVar 8)) mNil)))
/- return False -/
noncomputable def ml_14 : EnvM → Bag → SRes := (mRet (mC (.bool false)))
/- if not _law_alike([check_of(octets), sealed(octets), is_sealed(whole)], [_law_check(octets), whole, True]): -/
noncomputable def ml_15 : EnvM → Bag → SRes := (mIf (mNot (mTru truP (mCall 2 f__law_alike (mCons (mG (mLst (mCons (mG (mCall 1 f_check_of (mCons (mG (mVar 8)) mNil))) (mCons (mG (mCall 1 f_sealed (mCons (mG (mVar 8)) mNil))) (mCons (mG (mCall 1 f_is_sealed (mCons (mG (mVar 9)) mNil))) mNil))))) (mCons (mG (mLst (mCons (mG (mCall 1 f__law_check (mCons (mG (mVar 8)) mNil))) (mCons (mG (mVar 9)) (mCons (mG (mC (.bool true))) mNil))))) mNil))))) ml_14 mSkip)
/- at, many = (_law_take(bag, len(whole)), 1 + _law_take(bag, 3)) -/
noncomputable def ml_16 : EnvM → Bag → SRes := (mPar 10 11 (mCons (mG (mCall 2 f__law_take (mCons (mBag 1) (mCons (mG (mCa lenP (mCons (mG (mVar 9)) mNil))) mNil)))) (mCons (mG (mOp addP (mC (.int 1)) (mCall 2 f__law_take (mCons (mBag 1) (mCons (mG (mC (.int 3))) mNil))))) mNil)))
/- other = list(whole) -/
noncomputable def ml_17 : EnvM → Bag → SRes := (mSetM 12 (mMList (mCons (mG (mVar 9)) mNil)))
/- other[place] = int(other[place] + 1 + _law_take(bag, 255)) % 256 -/
noncomputable def ml_18 : EnvM → Bag → SRes := (mSetIx 12 (mVar 13) (mOp modP (mCa intP (mCons (mG (mOp addP (mOp addP (mIxOwn 12 (mVar 13)) (mC (.int 1))) (mCall 2 f__law_take (mCons (mBag 1) (mCons (mG (mC (.int 255))) mNil))))) mNil)) (mC (.int 256))))
/- for place in range(at, min(at + many, len(whole))): -/
noncomputable def ml_19 : EnvM → Bag → SRes := (mFor (mRange2 (mCons (mG (mVar 10)) (mCons (mG (mCa min2P (mCons (mG (mOp addP (mVar 10) (mVar 11))) (mCons (mG (mCa lenP (mCons (mG (mVar 9)) mNil))) mNil)))) mNil))) (mgName 13) ml_18)
/- return False -/
noncomputable def ml_20 : EnvM → Bag → SRes := (mRet (mC (.bool false)))
/- if is_sealed(tuple(other)) is not False: -/
noncomputable def ml_21 : EnvM → Bag → SRes := (mIf (mCmp isnBP (mCall 1 f_is_sealed (mCons (mG (mCa tupleP (mCons (mG (mVar 12)) mNil))) mNil)) (mC (.bool false))) ml_20 mSkip)
/- for turn in range(9): -/
noncomputable def ml_22 : EnvM → Bag → SRes := (mFor (mRange1 (mCons (mG (mC (.int 9))) mNil)) (mgName 2) (mSeq ml_0
  (mSeq ml_1
  (mSeq ml_3
  (mSeq ml_4
  (mSeq ml_6
  (mSeq ml_11
  (mSeq ml_12
  (mSeq ml_13
  (mSeq ml_15
  (mSeq ml_16
  (mSeq ml_17
  (mSeq ml_19
  (mFz 12 ml_21))))))))))))))
/- return True -/
noncomputable def ml_23 : EnvM → Bag → SRes := (mRet (mC (.bool true)))
noncomputable def m_law : EnvM → Bag → SRes := (mSeq ml_22
  ml_23)

end DL
set_option Elab.async false
set_option linter.all false
set_option maxRecDepth 100000
set_option maxHeartbeats 4000000
/-! TL1: typed values behind the mirrors: contexts, the typed monads, judgements of expressions. -/
namespace TL
open PySem L2 DL
/-! ### what the slots are known to hold -/
abbrev Ctx := List (Nat × Option SV)
structure Ag (n : Nat) (Γ : Ctx) (env : EnvM) : Prop where
  len : env.length = n
  get : ∀ i v, Γ.lookup i = some (some v) → env[i]? = some (some v)
def Sb (Γ' Γ : Ctx) : Prop := ∀ i v, Γ'.lookup i = some (some v) → Γ.lookup i = some (some v)
theorem Sb.nil {Γ : Ctx} : Sb [] Γ := fun _ _ h => by cases h
theorem lk_eq {i : Nat} {v : Option SV} {Γ : Ctx} : List.lookup i ((i, v) :: Γ) = some v := by simp [List.lookup_cons]
theorem lk_ne {i j : Nat} {v : Option SV} {Γ : Ctx} (h : i ≠ j) : List.lookup i ((j, v) :: Γ) = List.lookup i Γ := by
  rw [List.lookup_cons]
  have : (i == j) = false := by simp [h]
  rw [this]
theorem Sb.cons {i : Nat} {v : SV} {Γ' Γ : Ctx} (h : Γ.lookup i = some (some v)) (r : Sb Γ' Γ) : Sb ((i, some v) :: Γ') Γ := fun j u e => by
  by_cases c : j = i
  · subst c
    rw [lk_eq] at e
    cases e; exact h
  · rw [lk_ne c] at e
    exact r j u e
theorem Sb.refl {Γ : Ctx} : Sb Γ Γ := fun _ _ h => h
theorem Ag.sub {n : Nat} {Γ Γ' : Ctx} {env : EnvM} (A : Ag n Γ env) (h : Sb Γ' Γ) : Ag n Γ' env := ⟨A.len, fun i v e => A.get i v (h i v e)⟩
theorem Ag.set {n : Nat} {Γ : Ctx} {env : EnvM} (A : Ag n Γ env) {i : Nat} (hi : i < n) (v : SV) : Ag n ((i, some v) :: Γ) (env.set i (some v)) := by
  refine ⟨by rw [List.length_set]; exact A.len, fun j u e => ?_⟩
  by_cases c : j = i
  · subst c
    rw [lk_eq] at e
    cases e
    rw [List.getElem?_set_self (by rw [A.len]; exact hi)]
  · rw [lk_ne c] at e
    rw [List.getElem?_set_ne (fun z => c z.symm)]
    exact A.get j u e
def wipeC : List Nat → Ctx → Ctx
  | [], Γ => Γ
  | v :: vs, Γ => (v, none) :: wipeC vs Γ
theorem Ag.wipe {n : Nat} {Γ : Ctx} {env : EnvM} (A : Ag n Γ env) : ∀ vs : List Nat, Ag n (wipeC vs Γ) (wipeE env vs)
  | [] => A
  | v :: vs => by
    have ih := Ag.wipe A vs
    refine ⟨by unfold wipeE; rw [List.length_set]; exact ih.len, fun j u e => ?_⟩
    unfold wipeC at e
    by_cases c : j = v
    · subst c
      rw [lk_eq] at e
      cases e
    · rw [lk_ne c] at e
      unfold wipeE
      rw [List.getElem?_set_ne (fun z => c z.symm)]
      exact ih.get j u e
def ctx0 (k : Nat) : List SV → Ctx
  | [] => []
  | s :: r => (k, some s) :: ctx0 (k + 1) r
theorem ctx0_get : ∀ (ss : List SV) (k i : Nat) (v : SV), (ctx0 k ss).lookup i = some (some v) → k ≤ i ∧ ss[i - k]? = some v
  | [], k, i, v, h => by cases h
  | s :: r, k, i, v, h => by
    unfold ctx0 at h
    by_cases c : i = k
    · subst c
      rw [lk_eq] at h
      cases h
      simp
    · rw [lk_ne c] at h
      obtain ⟨h1, h2⟩ := ctx0_get r (k + 1) i v h
      refine ⟨by omega, ?_⟩
      have e : i - k = (i - (k + 1)) + 1 := by omega
      rw [e, List.getElem?_cons_succ]; exact h2
theorem Ag.start {n : Nat} (ss : List SV) (h : ss.length ≤ n) : Ag n (ctx0 0 ss) (env0 n ss) := by
  refine ⟨by unfold env0; simp; omega, fun i v e => ?_⟩
  obtain ⟨_, h2⟩ := ctx0_get ss 0 i v e
  rw [Nat.sub_zero] at h2
  unfold env0
  have hi : i < ss.length := (List.getElem?_eq_some_iff.mp h2).1
  rw [List.getElem?_append_left (by simpa using hi), List.getElem?_map, h2]; rfl
theorem Ag.law {n ib : Nat} (h : ib < n) : Ag n [(ib, some .bag)] (envL n ib) := by
  have A : Ag n [] (List.replicate n none) := ⟨by simp, fun i v e => by cases e⟩
  exact A.set h .bag
/-! ### the typed monads -/
def D (α : Type) : Type := Bag → Option (α × Bag)
instance : Monad D where
  pure a := fun B => some (a, B)
  bind x f := fun B => (x B).bind fun p => f p.1 p.2
class Rn (M : Type → Type) extends Monad M where
  rn : {α : Type} → M α → Bag → Option (α × Bag)
  up : {α : Type} → Option α → M α
  rn_pure : ∀ {α : Type} (a : α) (B : Bag), rn (pure a : M α) B = some (a, B)
  rn_bind : ∀ {α β : Type} (x : M α) (f : α → M β) (B : Bag), rn (x >>= f) B = (rn x B).bind fun p => rn (f p.1) p.2
  rn_up : ∀ {α : Type} (x : Option α) (B : Bag), rn (up x) B = x.map fun a => (a, B)
  lim : {α : Type} → (Nat → M α) → M α
  lim_ex : ∀ {α : Type} (f : Nat → M α) (B : Bag) (r : α × Bag), rn (lim f) B = some r → ∃ k, rn (f k) B = some r
  lim_of : ∀ {α : Type} (f : Nat → M α) (B : Bag) (r : α × Bag) (k : Nat), (∀ k r, rn (f k) B = some r → rn (f (k + 1)) B = some r) → rn (f k) B = some r → rn (lim f) B = some r
open Classical in
noncomputable def limO {α : Type} (f : Nat → Option α) : Option α := if h : ∃ k r, f k = some r then f h.choose else none
theorem limO_ex {α : Type} {f : Nat → Option α} {r : α} (h : limO f = some r) : ∃ k, f k = some r := by
  unfold limO at h
  by_cases c : ∃ k r, f k = some r
  · rw [dif_pos c] at h; exact ⟨_, h⟩
  · rw [dif_neg c] at h; cases h
theorem limO_of {α : Type} {f : Nat → Option α} {r : α} {k : Nat} (m : ∀ k r, f k = some r → f (k + 1) = some r) (h : f k = some r) : limO f = some r := by
  have up : ∀ d k r, f k = some r → f (k + d) = some r := fun d => by
    induction d with
    | zero => exact fun k r h => h
    | succ d ih => exact fun k r h => m _ _ (ih k r h)
  have c : ∃ k r, f k = some r := ⟨k, r, h⟩
  unfold limO
  rw [dif_pos c]
  obtain ⟨r', h'⟩ := c.choose_spec
  rcases Nat.le_total k c.choose with l | l
  · have := up (c.choose - k) k r h
    rwa [Nat.add_sub_cancel' l] at this
  · have := up (k - c.choose) _ r' h'
    rw [Nat.add_sub_cancel' l, h] at this
    rw [h', this]
noncomputable instance : Rn D where
  rn x := x
  up x := fun B => x.map fun a => (a, B)
  rn_pure _ _ := rfl
  rn_bind _ _ _ := rfl
  rn_up _ _ := rfl
  lim f := fun B => limO fun k => f k B
  lim_ex f B r h := limO_ex h
  lim_of f B r k m h := limO_of (f := fun k => f k B) m h
noncomputable instance : Rn Option where
  rn x B := x.map fun a => (a, B)
  up x := x
  rn_pure _ _ := rfl
  rn_bind x f B := by cases x <;> rfl
  rn_up _ _ := rfl
  lim f := limO f
  lim_ex f B r h := by
    cases e : limO f with
    | none => rw [e] at h; cases h
    | some a =>
      rw [e] at h
      obtain ⟨k, q⟩ := limO_ex e
      exact ⟨k, by rw [q]; exact h⟩
  lim_of f B r k m h := by
    cases e : f k with
    | none => rw [e] at h; cases h
    | some a =>
      rw [e] at h
      have : limO f = some a := limO_of (fun k r q => by
        have := m k (r, B) (by rw [q]; rfl)
        cases e2 : f (k + 1) with
        | none => rw [e2] at this; cases this
        | some b => rw [e2] at this; cases this; rfl) e
      rw [this]; exact h
open Rn (rn up)
section
variable {M : Type → Type} [Rn M] {α β γ : Type}
theorem rnB {x : M α} {f : α → M β} {B : Bag} {b : β} {B' : Bag} (h : rn (x >>= f) B = some (b, B')) : ∃ a B1, rn x B = some (a, B1) ∧ rn (f a) B1 = some (b, B') := by
  rw [Rn.rn_bind] at h
  cases e : rn x B with
  | none => rw [e] at h; cases h
  | some p => rw [e] at h; exact ⟨p.1, p.2, rfl, h⟩
theorem rnP {a b : α} {B B' : Bag} (h : rn (pure a : M α) B = some (b, B')) : b = a ∧ B = B' := by
  rw [Rn.rn_pure] at h; cases h; exact ⟨rfl, rfl⟩
theorem rnU {x : Option α} {b : α} {B B' : Bag} (h : rn (up x : M α) B = some (b, B')) : x = some b ∧ B = B' := by
  rw [Rn.rn_up] at h
  cases x with
  | none => cases h
  | some a => cases h; exact ⟨rfl, rfl⟩
end
theorem rnO {α : Type} {x : Option α} {b : α} {B B' : Bag} (h : rn x B = some (b, B')) : x = some b ∧ B = B' := rnU (M := Option) h
theorem rnO_of {α : Type} {x : Option α} {b : α} {B : Bag} (h : x = some b) : rn x B = some (b, B) := by subst h; rfl
/-! ### judgements of expressions -/
def T {β : Type} (n : Nat) (Γ : Ctx) (m : EnvM → Bag → Res β) (v : β) : Prop := ∀ env, Ag n Γ env → ∀ B, m env B = .ok v B
def J {M : Type → Type} [Rn M] {α β : Type} (n : Nat) (Γ : Ctx) (m : EnvM → Bag → Res β) (P : M α) (e : α → β) : Prop := ∀ env, Ag n Γ env → ∀ B a B', rn P B = some (a, B') → m env B = .ok (e a) B'
section
variable {M : Type → Type} [Rn M] {α β γ δ : Type} {n : Nat} {Γ : Ctx}
theorem T.j {m : EnvM → Bag → Res β} {e : α → β} {a : α} (h : T n Γ m (e a)) : J n Γ m (pure a : M α) e := fun env A B a' B' r => by
  obtain ⟨rfl, rfl⟩ := rnP r
  exact h env A B
theorem J.sub {Γ' : Ctx} {m : EnvM → Bag → Res β} {P : M α} {e : α → β} (h : J n Γ' m P e) (s : Sb Γ' Γ) : J n Γ m P e := fun env A => h env (A.sub s)
theorem J.of {m : EnvM → Bag → Res β} {P Q : M α} {e : α → β} (h : J n Γ m P e) (s : P = Q) : J n Γ m Q e := s ▸ h
variable {ma mb mc : EnvM → Bag → Res PD} {x y z : PD} {ea : α → PD} {eb : β → PD} {ec : γ → PD} {Pa : M α} {Pb : M β} {Pc : M γ}
theorem t_c {d : PD} : T n Γ (mC d) d := fun env A B => rfl
theorem t_var {i : Nat} {x : PD} (h : Γ.lookup i = some (some (.d x))) : T n Γ (mVar i) x := fun env A B => by unfold mVar; rw [A.get _ _ h]
theorem t_bag {i : Nat} (h : Γ.lookup i = some (some .bag)) : T n Γ (mBag i) .bag := fun env A B => by unfold mBag; rw [A.get _ _ h]
/-! two values -/
theorem t_op {g : PD → PD → Option PD} (ha : T n Γ ma x) (hb : T n Γ mb y) (hg : g x y = some z) : T n Γ (mOp g ma mb) z := fun env A B => r_op (ha env A B) (hb env A B) hg
theorem j_op {g : PD → PD → Option PD} {F : α → β → Option γ} (ha : J n Γ ma Pa ea) (hb : J n Γ mb Pb eb) (hg : ∀ a b c, F a b = some c → g (ea a) (eb b) = some (ec c)) : J n Γ (mOp g ma mb) (Pa >>= fun a => Pb >>= fun b => (up (F a b) : M γ)) ec := fun env A B c B' r => by
  obtain ⟨a, B1, r1, r⟩ := rnB r
  obtain ⟨b, B2, r2, r⟩ := rnB r
  obtain ⟨h, rfl⟩ := rnU r
  exact r_op (ha env A _ _ _ r1) (hb env A _ _ _ r2) (hg _ _ _ h)
theorem j_opT {g : PD → PD → Option PD} {F : α → β → γ} (ha : J n Γ ma Pa ea) (hb : J n Γ mb Pb eb) (hg : ∀ a b, g (ea a) (eb b) = some (ec (F a b))) : J n Γ (mOp g ma mb) (Pa >>= fun a => Pb >>= fun b => (pure (F a b) : M γ)) ec := fun env A B c B' r => by
  obtain ⟨a, B1, r1, r⟩ := rnB r
  obtain ⟨b, B2, r2, r⟩ := rnB r
  obtain ⟨rfl, rfl⟩ := rnP r
  exact r_op (ha env A _ _ _ r1) (hb env A _ _ _ r2) (hg _ _)
theorem j_opP {g : PD → PD → Option PD} {F : Option γ} (ha : T n Γ ma x) (hb : T n Γ mb y) (hg : ∀ c, F = some c → g x y = some (ec c)) : J n Γ (mOp g ma mb) (up F : M γ) ec := fun env A B c B' r => by
  obtain ⟨h, rfl⟩ := rnU r
  exact r_op (ha env A B) (hb env A B) (hg _ h)
theorem t_cmp {g : PD → PD → Option Bool} {k : Bool} (ha : T n Γ ma x) (hb : T n Γ mb y) (hg : g x y = some k) : T n Γ (mCmp g ma mb) k := fun env A B => r_cmp (ha env A B) (hb env A B) hg
theorem j_cmp {g : PD → PD → Option Bool} {F : α → β → Bool} (ha : J n Γ ma Pa ea) (hb : J n Γ mb Pb eb) (hg : ∀ a b, g (ea a) (eb b) = some (F a b)) : J n Γ (mCmp g ma mb) (Pa >>= fun a => Pb >>= fun b => (pure (F a b) : M Bool)) id := fun env A B c B' r => by
  obtain ⟨a, B1, r1, r⟩ := rnB r
  obtain ⟨b, B2, r2, r⟩ := rnB r
  obtain ⟨rfl, rfl⟩ := rnP r
  exact r_cmp (ha env A _ _ _ r1) (hb env A _ _ _ r2) (hg _ _)
theorem t_ch {g g' : PD → PD → Option Bool} {k k' : Bool} (ha : T n Γ ma x) (hb : T n Γ mb y) (hc : T n Γ mc z) (hg : g x y = some k) (hg' : g' y z = some k') : T n Γ (mChain g g' ma mb mc) (k && k') := fun env A B => r_ch (ha env A B) (hb env A B) hg (hc env A B) hg'
theorem t_b {m : EnvM → Bag → Res Bool} {k : Bool} (h : T n Γ m k) : T n Γ (mB m) (.bool k) := fun env A B => r_b (h env A B)
theorem j_b {m : EnvM → Bag → Res Bool} {P : M Bool} (h : J n Γ m P id) : J n Γ (mB m) P PyData.bool := fun env A B c B' r => r_b (h env A _ _ _ r)
theorem t_tru {k : Bool} (h : T n Γ ma (.bool k)) : T n Γ (mTru truP ma) k := fun env A B => r_truB (h env A B)
theorem j_tru {P : M Bool} (h : J n Γ ma P PyData.bool) : J n Γ (mTru truP ma) P id := fun env A B c B' r => r_truB (h env A _ _ _ r)
theorem t_not {m : EnvM → Bag → Res Bool} {k : Bool} (h : T n Γ m k) : T n Γ (mNot m) (!k) := fun env A B => r_not (h env A B)
theorem j_not {m : EnvM → Bag → Res Bool} {P : M Bool} (h : J n Γ m P id) : J n Γ (mNot m) (P >>= fun k => (pure (!k) : M Bool)) id := fun env A B c B' r => by
  obtain ⟨a, B1, r1, r⟩ := rnB r
  obtain ⟨rfl, rfl⟩ := rnP r
  exact r_not (h env A _ _ _ r1)
theorem t_and {m m' : EnvM → Bag → Res Bool} {k k' : Bool} (h : T n Γ m k) (h' : T n Γ m' k') : T n Γ (mAnd m m') (k && k') := fun env A B => by
  cases k with
  | true => exact r_andT (h env A B) (h' env A B)
  | false => exact r_andF (h env A B)
theorem t_or {m m' : EnvM → Bag → Res Bool} {k k' : Bool} (h : T n Γ m k) (h' : T n Γ m' k') : T n Γ (mOr m m') (k || k') := fun env A B => by
  cases k with
  | true => exact r_orT (h env A B)
  | false => exact r_orF (h env A B) (h' env A B)
/-- one side is settled -/
theorem t_andF {m m' : EnvM → Bag → Res Bool} (h : T n Γ m false) : T n Γ (mAnd m m') false := fun env A B => r_andF (h env A B)
theorem t_orT {m m' : EnvM → Bag → Res Bool} (h : T n Γ m true) : T n Γ (mOr m m') true := fun env A B => r_orT (h env A B)
theorem j_andT {m m' : EnvM → Bag → Res Bool} {Q : M Bool} (h : T n Γ m true) (h' : J n Γ m' Q id) : J n Γ (mAnd m m') Q id := fun env A B c B' r => r_andT (h env A B) (h' env A _ _ _ r)
theorem j_orF {m m' : EnvM → Bag → Res Bool} {Q : M Bool} (h : T n Γ m false) (h' : J n Γ m' Q id) : J n Γ (mOr m m') Q id := fun env A B c B' r => r_orF (h env A B) (h' env A _ _ _ r)
theorem j_and {m m' : EnvM → Bag → Res Bool} {P Q : M Bool} (h : J n Γ m P id) (h' : J n Γ m' Q id) : J n Γ (mAnd m m') (P >>= fun k => if k = true then Q else (pure false : M Bool)) id := fun env A B c B' r => by
  obtain ⟨a, B1, r1, r⟩ := rnB r
  cases a with
  | true => exact r_andT (h env A _ _ _ r1) (h' env A _ _ _ r)
  | false => obtain ⟨rfl, rfl⟩ := rnP r; exact r_andF (h env A _ _ _ r1)
theorem j_or {m m' : EnvM → Bag → Res Bool} {P Q : M Bool} (h : J n Γ m P id) (h' : J n Γ m' Q id) : J n Γ (mOr m m') (P >>= fun k => if k = true then (pure true : M Bool) else Q) id := fun env A B c B' r => by
  obtain ⟨a, B1, r1, r⟩ := rnB r
  cases a with
  | true => obtain ⟨rfl, rfl⟩ := rnP r; exact r_orT (h env A _ _ _ r1)
  | false => exact r_orF (h env A _ _ _ r1) (h' env A _ _ _ r)
theorem t_andV {k k' : Bool} (h : T n Γ ma (.bool k)) (h' : T n Γ mb (.bool k')) : T n Γ (mAndV ma mb) (.bool (k && k')) := fun env A B => r_andV (h env A B) fun _ => h' env A B
theorem t_orV {k k' : Bool} (h : T n Γ ma (.bool k)) (h' : T n Γ mb (.bool k')) : T n Γ (mOrV ma mb) (.bool (k || k')) := fun env A B => r_orV (h env A B) fun _ => h' env A B
theorem t_andVF (h : T n Γ ma (.bool false)) : T n Γ (mAndV ma mb) (.bool false) := fun env A B => by unfold mAndV; rw [h env A B]; rfl
theorem t_orVT (h : T n Γ ma (.bool true)) : T n Γ (mOrV ma mb) (.bool true) := fun env A B => by unfold mOrV; rw [h env A B]; rfl
theorem j_andVT {Q : M α} (h : T n Γ ma (.bool true)) (h' : J n Γ mb Q ea) : J n Γ (mAndV ma mb) Q ea := fun env A B c B' r => by unfold mAndV; rw [h env A B]; exact h' env A _ _ _ r
theorem j_orVF {Q : M α} (h : T n Γ ma (.bool false)) (h' : J n Γ mb Q ea) : J n Γ (mOrV ma mb) Q ea := fun env A B c B' r => by unfold mOrV; rw [h env A B]; exact h' env A _ _ _ r
theorem j_andV {P Q : M Bool} (h : J n Γ ma P PyData.bool) (h' : J n Γ mb Q PyData.bool) : J n Γ (mAndV ma mb) (P >>= fun k => if k = true then Q else (pure false : M Bool)) PyData.bool := fun env A B c B' r => by
  obtain ⟨a, B1, r1, r⟩ := rnB r
  unfold mAndV
  rw [h env A _ _ _ r1]
  cases a with
  | true => exact h' env A _ _ _ r
  | false => obtain ⟨rfl, rfl⟩ := rnP r; rfl
theorem j_orV {P Q : M Bool} (h : J n Γ ma P PyData.bool) (h' : J n Γ mb Q PyData.bool) : J n Γ (mOrV ma mb) (P >>= fun k => if k = true then (pure true : M Bool) else Q) PyData.bool := fun env A B c B' r => by
  obtain ⟨a, B1, r1, r⟩ := rnB r
  unfold mOrV
  rw [h env A _ _ _ r1]
  cases a with
  | true => obtain ⟨rfl, rfl⟩ := rnP r; rfl
  | false => exact h' env A _ _ _ r
theorem t_notV {k : Bool} (h : T n Γ ma (.bool k)) : T n Γ (mNotV ma) (.bool (!k)) := fun env A B => r_notV (h env A B)
theorem j_notV {P : M Bool} (h : J n Γ ma P PyData.bool) : J n Γ (mNotV ma) (P >>= fun k => (pure (!k) : M Bool)) PyData.bool := fun env A B c B' r => by
  obtain ⟨a, B1, r1, r⟩ := rnB r
  obtain ⟨rfl, rfl⟩ := rnP r
  exact r_notV (h env A _ _ _ r1)
theorem t_isi {f : PD → Bool} {k : Bool} (h : T n Γ ma x) (hk : f x = k) : T n Γ (mIsi f ma) (.bool k) := fun env A B => by rw [← hk]; exact r_isi (h env A B)
theorem t_isi2 {f g : PD → Bool} {k : Bool} (h : T n Γ ma x) (hk : (f x || g x) = k) : T n Γ (mIsi2 f g ma) (.bool k) := fun env A B => by rw [← hk]; exact r_isi2 (h env A B)
theorem t_neg {i : Int} (h : T n Γ ma (.int i)) : T n Γ (mNeg ma) (.int (-i)) := fun env A B => r_neg (h env A B)
theorem j_neg {P : M Int} (h : J n Γ ma P PyData.int) : J n Γ (mNeg ma) (P >>= fun i => (pure (-i) : M Int)) PyData.int := fun env A B c B' r => by
  obtain ⟨a, B1, r1, r⟩ := rnB r
  obtain ⟨rfl, rfl⟩ := rnP r
  exact r_neg (h env A _ _ _ r1)
/-! arguments -/
theorem t_g (h : T n Γ ma x) : T n Γ (mG ma) (.d x) := fun env A B => r_g (h env A B)
theorem j_g (h : J n Γ ma Pa ea) : J n Γ (mG ma) Pa (fun a => SV.d (ea a)) := fun env A B c B' r => r_g (h env A _ _ _ r)
theorem t_nil : T n Γ mNil [] := fun _ _ _ => rfl
theorem t_cons {a : EnvM → Bag → Res SV} {r : EnvM → Bag → Res (List SV)} {s : SV} {ss : List SV} (h : T n Γ a s) (h2 : T n Γ r ss) : T n Γ (mCons a r) (s :: ss) := fun env A B => r_cons (h env A B) (h2 env A B)
theorem j_cons {a : EnvM → Bag → Res SV} {r : EnvM → Bag → Res (List SV)} {sa : α → SV} {sb : β → List SV} (h : J n Γ a Pa sa) (h2 : J n Γ r Pb sb) : J n Γ (mCons a r) (Pa >>= fun x => Pb >>= fun y => (pure (x, y) : M (α × β))) (fun p => sa p.1 :: sb p.2) := fun env A B c B' r => by
  obtain ⟨a, B1, r1, r⟩ := rnB r
  obtain ⟨b, B2, r2, r⟩ := rnB r
  obtain ⟨rfl, rfl⟩ := rnP r
  exact r_cons (h env A _ _ _ r1) (h2 env A _ _ _ r2)
theorem j_consT {a : EnvM → Bag → Res SV} {r : EnvM → Bag → Res (List SV)} {s : SV} {sb : β → List SV} (h : T n Γ a s) (h2 : J n Γ r Pb sb) : J n Γ (mCons a r) Pb (fun p => s :: sb p) := fun env A B c B' q => r_cons (h env A _) (h2 env A _ _ _ q)
theorem j_nil : J n Γ mNil (pure () : M Unit) (fun _ => []) := fun env A B c B' r => by
  obtain ⟨rfl, rfl⟩ := rnP r; rfl
/-- one argument that is reckoned, the others plain -/
theorem j_cons1 {a : EnvM → Bag → Res SV} {r : EnvM → Bag → Res (List SV)} {sa : α → SV} {ss : List SV} (h : J n Γ a Pa sa) (h2 : T n Γ r ss) : J n Γ (mCons a r) Pa (fun p => sa p :: ss) := fun env A B c B' q => r_cons (h env A _ _ _ q) (h2 env A _)
/-- things of one kind -/
theorem j_hnil {e : α → PD} : J n Γ mNil (pure [] : M (List α)) (fun xs => xs.map fun x => SV.d (e x)) := fun env A B c B' r => by
  obtain ⟨rfl, rfl⟩ := rnP r; rfl
theorem j_hcons {r : EnvM → Bag → Res (List SV)} {Pr : M (List α)} (h : J n Γ ma Pa ea) (h2 : J n Γ r Pr (fun xs => xs.map fun x => SV.d (ea x))) : J n Γ (mCons (mG ma) r) (Pa >>= fun x => Pr >>= fun xs => (pure (x :: xs) : M (List α))) (fun xs => xs.map fun x => SV.d (ea x)) := fun env A B c B' q => by
  obtain ⟨a, B1, r1, q⟩ := rnB q
  obtain ⟨b, B2, r2, q⟩ := rnB q
  obtain ⟨rfl, rfl⟩ := rnP q
  exact r_cons (r_g (h env A _ _ _ r1)) (h2 env A _ _ _ r2)
theorem unD_map (xs : List PD) : unD (xs.map SV.d) = some xs := by
  induction xs with
  | nil => rfl
  | cons x r ih => rw [List.map_cons]; unfold unD; rw [ih]; rfl
theorem unD_map' (e : α → PD) (xs : List α) : unD (xs.map fun x => SV.d (e x)) = some (xs.map e) := by
  have := unD_map (xs.map e)
  rwa [List.map_map] at this
theorem sz0 : 0 ≤ sizeLine := Nat.zero_le _
theorem szS {k : Nat} (h : k ≤ 40) : k ≤ sizeLine := Nat.le_trans h (by decide)
theorem t_tup {m : EnvM → Bag → Res (List SV)} {ss : List SV} {ds : List PD} (h : T n Γ m ss) (hu : unD ss = some ds) (hl : ds.length ≤ sizeLine) : T n Γ (mTup m) (.tuple ds) := fun env A B => r_tup (h env A B) hu hl
theorem t_lst {m : EnvM → Bag → Res (List SV)} {ss : List SV} {ds : List PD} (h : T n Γ m ss) (hu : unD ss = some ds) (hl : ds.length ≤ sizeLine) : T n Γ (mLst m) (.list ds) := fun env A B => r_lst (h env A B) hu hl
theorem j_tup {m : EnvM → Bag → Res (List SV)} {sv : α → List SV} {ds : α → List PD} (h : J n Γ m Pa sv) (hu : ∀ a, unD (sv a) = some (ds a)) (hl : ∀ a, (ds a).length ≤ sizeLine) : J n Γ (mTup m) Pa (fun a => .tuple (ds a)) := fun env A B c B' q => r_tup (h env A _ _ _ q) (hu _) (hl _)
theorem j_lst {m : EnvM → Bag → Res (List SV)} {sv : α → List SV} {ds : α → List PD} (h : J n Γ m Pa sv) (hu : ∀ a, unD (sv a) = some (ds a)) (hl : ∀ a, (ds a).length ≤ sizeLine) : J n Γ (mLst m) Pa (fun a => .list (ds a)) := fun env A B c B' q => r_lst (h env A _ _ _ q) (hu _) (hl _)
/-- with a value of its own -/
theorem j_map {m : EnvM → Bag → Res δ} {e : α → δ} {F : α → β} {e' : β → δ} (h : J n Γ m Pa e) (he : ∀ a, e a = e' (F a)) : J n Γ m (Pa >>= fun a => (pure (F a) : M β)) e' := fun env A B c B' q => by
  obtain ⟨a, B1, r1, q⟩ := rnB q
  obtain ⟨rfl, rfl⟩ := rnP q
  rw [← he]
  exact h env A _ _ _ r1
/-- with something asked -/
theorem j_gd {m m' : EnvM → Bag → Res δ} {e : α → δ} {e' : β → δ} {F : α → Option β} (h : J n Γ m Pa e) (hm : ∀ env, Ag n Γ env → ∀ a b B B', F a = some b → m env B = .ok (e a) B' → m' env B = .ok (e' b) B') : J n Γ m' (Pa >>= fun a => (up (F a) : M β)) e' := fun env A B c B' q => by
  obtain ⟨a, B1, r1, q⟩ := rnB q
  obtain ⟨qq, rfl⟩ := rnU q
  exact hm env A _ _ _ _ qq (h env A _ _ _ r1)
theorem t_ca {g : List PD → Option PD} {m : EnvM → Bag → Res (List SV)} {ss : List SV} (h : T n Γ m ss) (hg : (unD ss).bind g = some z) : T n Γ (mCa g m) z := fun env A B => r_ca (h env A B) hg
theorem j_ca {g : List PD → Option PD} {m : EnvM → Bag → Res (List SV)} {sv : α → List SV} {F : α → Option β} (h : J n Γ m Pa sv) (hg : ∀ a b, F a = some b → (unD (sv a)).bind g = some (eb b)) : J n Γ (mCa g m) (Pa >>= fun a => (up (F a) : M β)) eb := fun env A B c B' q => by
  obtain ⟨a, B1, r1, q⟩ := rnB q
  obtain ⟨qq, rfl⟩ := rnU q
  exact r_ca (h env A _ _ _ r1) (hg _ _ qq)
theorem j_caT {g : List PD → Option PD} {m : EnvM → Bag → Res (List SV)} {sv : α → List SV} {F : α → β} (h : J n Γ m Pa sv) (hg : ∀ a, (unD (sv a)).bind g = some (eb (F a))) : J n Γ (mCa g m) (Pa >>= fun a => (pure (F a) : M β)) eb := fun env A B c B' q => by
  obtain ⟨a, B1, r1, q⟩ := rnB q
  obtain ⟨rfl, rfl⟩ := rnP q
  exact r_ca (h env A _ _ _ r1) (hg _)
theorem j_caP {g : List PD → Option PD} {m : EnvM → Bag → Res (List SV)} {ss : List SV} {F : Option β} (h : T n Γ m ss) (hg : ∀ b, F = some b → (unD ss).bind g = some (eb b)) : J n Γ (mCa g m) (up F : M β) eb := fun env A B c B' q => by
  obtain ⟨qq, rfl⟩ := rnU q
  exact r_ca (h env A _) (hg _ qq)
/-! calls -/
/-- what a def does: total | reckoned -/
def FT (f : List SV → Bag → Res PD) (ss : List SV) (v : PD) : Prop := ∀ B, f ss B = .ok v B
def FJ (f : List SV → Bag → Res PD) (ss : List SV) (F : M α) (e : α → PD) : Prop := ∀ B r B', rn F B = some (r, B') → f ss B = .ok (e r) B'
theorem t_call {np : Nat} {f : List SV → Bag → Res PD} {m : EnvM → Bag → Res (List SV)} {ss : List SV} (h : T n Γ m ss) (hl : ss.length = np) (hf : FT f ss z) : T n Γ (mCall np f m) z := fun env A B => r_call (h env A B) hl (hf B)
theorem j_callT {np : Nat} {f : List SV → Bag → Res PD} {m : EnvM → Bag → Res (List SV)} {ss : List SV} {F : M β} (h : T n Γ m ss) (hl : ss.length = np) (hf : FJ f ss F eb) : J n Γ (mCall np f m) F eb := fun env A B c B' q => r_call (h env A B) hl (hf _ _ _ q)
theorem j_call {np : Nat} {f : List SV → Bag → Res PD} {m : EnvM → Bag → Res (List SV)} {sv : α → List SV} {F : α → M β} (h : J n Γ m Pa sv) (hl : ∀ a, (sv a).length = np) (hf : ∀ a, FJ f (sv a) (F a) eb) : J n Γ (mCall np f m) (Pa >>= F) eb := fun env A B c B' q => by
  obtain ⟨a, B1, r1, q⟩ := rnB q
  exact r_call (h env A _ _ _ r1) (hl _) (hf _ _ _ _ q)
theorem t_callE {np : Nat} {f : List SV → Bag → Res PD} {m : EnvM → Bag → Res (List SV)} {ss : List SV} (h : T n Γ m ss) (hl : ss.length = np) (hf : FT f ss z) : T n Γ (mCallE np f m) z := fun env A B => by
  unfold mCallE; rw [h env A B]; simp only [Res.bind, hl, if_true]; exact hf B
theorem j_callET {np : Nat} {f : List SV → Bag → Res PD} {m : EnvM → Bag → Res (List SV)} {ss : List SV} {F : M β} (h : T n Γ m ss) (hl : ss.length = np) (hf : FJ f ss F eb) : J n Γ (mCallE np f m) F eb := fun env A B c B' q => by
  unfold mCallE; rw [h env A B]; simp only [Res.bind, hl, if_true]; exact hf _ _ _ q
theorem j_callE {np : Nat} {f : List SV → Bag → Res PD} {m : EnvM → Bag → Res (List SV)} {sv : α → List SV} {F : α → M β} (h : J n Γ m Pa sv) (hl : ∀ a, (sv a).length = np) (hf : ∀ a, FJ f (sv a) (F a) eb) : J n Γ (mCallE np f m) (Pa >>= F) eb := fun env A B c B' q => by
  obtain ⟨a, B1, r1, q⟩ := rnB q
  unfold mCallE; rw [h env A _ _ _ r1]; simp only [Res.bind, hl, if_true]; exact hf _ _ _ _ q
theorem FT.j {f : List SV → Bag → Res PD} {ss : List SV} {e : α → PD} {a : α} (h : FT f ss (e a)) : FJ (M := M) f ss (pure a) e := fun B r B' q => by
  obtain ⟨rfl, rfl⟩ := rnP q; exact h B
theorem FJ.up {f : List SV → Bag → Res PD} {ss : List SV} {e : α → PD} {F : Option α} (h : FJ f ss F e) : FJ (M := M) f ss (Rn.up F) e := fun B r B' q => by
  obtain ⟨qq, rfl⟩ := rnU q; exact h B r B (rnO_of qq)
theorem FJ.run {f : List SV → Bag → Res PD} {ss : List SV} {e : α → PD} {F : Option α} {a : α} (h : FJ f ss F e) (q : F = some a) : FT f ss (e a) := fun B => h B a B (rnO_of q)
/-! slices, index -/
theorem t_noPart : T n Γ mNoPart none := fun _ _ _ => rfl
theorem t_part {i : Int} (h : T n Γ ma (.int i)) : T n Γ (mPart ma) (some i) := fun env A B => r_part (h env A B)
theorem j_part {P : M Int} (h : J n Γ ma P PyData.int) : J n Γ (mPart ma) P (fun i => some i) := fun env A B c B' r => r_part (h env A _ _ _ r)
theorem t_sl {ml mh : EnvM → Bag → Res (Option Int)} {lo hi : Option Int} (ha : T n Γ ma x) (hl : T n Γ ml lo) (hh : T n Γ mh hi) (e : sliceP x lo hi = some z) : T n Γ (mSl ma ml mh) z := fun env A B => r_sl (ha env A B) (hl env A B) (hh env A B) e
theorem j_sl {ml mh : EnvM → Bag → Res (Option Int)} {Pl : M β} {Ph : M γ} {el : β → Option Int} {eh : γ → Option Int} {F : α → β → γ → δ} {e : δ → PD} (ha : J n Γ ma Pa ea) (hl : J n Γ ml Pl el) (hh : J n Γ mh Ph eh) (he : ∀ a b c, sliceP (ea a) (el b) (eh c) = some (e (F a b c))) :
    J n Γ (mSl ma ml mh) (Pa >>= fun a => Pl >>= fun b => Ph >>= fun c => (pure (F a b c) : M δ)) e := fun env A B c B' q => by
  obtain ⟨a, B1, r1, q⟩ := rnB q
  obtain ⟨b, B2, r2, q⟩ := rnB q
  obtain ⟨d, B3, r3, q⟩ := rnB q
  obtain ⟨rfl, rfl⟩ := rnP q
  exact r_sl (ha env A _ _ _ r1) (hl env A _ _ _ r2) (hh env A _ _ _ r3) (he _ _ _)
theorem t_rev {ds : List PD} (h : T n Γ ma (.tuple ds)) : T n Γ (mRev ma) (.tuple ds.reverse) := fun env A B => r_rev (h env A B)
theorem j_index {F : α → β → Option Int} (ha : J n Γ ma Pa ea) (hb : J n Γ mb Pb eb) (hs : ∀ a, isSeqP (ea a) = true) (hg : ∀ a b c, F a b = some c → indexP (ea a) (eb b) = some (.int c)) : J n Γ (mIndex ma mb) (Pa >>= fun a => Pb >>= fun b => (up (F a b) : M Int)) PyData.int := fun env A B c B' r => by
  obtain ⟨a, B1, r1, r⟩ := rnB r
  obtain ⟨b, B2, r2, r⟩ := rnB r
  obtain ⟨h, rfl⟩ := rnU r
  unfold mIndex; rw [ha env A _ _ _ r1]; simp only [Res.bind, hs, if_true, hb env A _ _ _ r2, hg _ _ _ h]
theorem j_indexP {F : Option Int} (ha : T n Γ ma x) (hb : T n Γ mb y) (hs : isSeqP x = true) (hg : ∀ c, F = some c → indexP x y = some (.int c)) : J n Γ (mIndex ma mb) (up F : M Int) PyData.int := fun env A B c B' r => by
  obtain ⟨h, rfl⟩ := rnU r
  unfold mIndex; rw [ha env A B]; simp only [Res.bind, hs, if_true, hb env A B, hg _ h]
/-! a if c else b -/
theorem t_ifE {c : EnvM → Bag → Res Bool} {k : Bool} {e : α → PD} {a b : α} (hc : T n Γ c k) (ha : T n Γ ma (e a)) (hb : T n Γ mb (e b)) : T n Γ (mIfE c ma mb) (e (if k = true then a else b)) := fun env A B => by
  unfold mIfE; rw [hc env A B]
  cases k with
  | true => exact ha env A B
  | false => exact hb env A B
theorem t_ifET {c : EnvM → Bag → Res Bool} (hc : T n Γ c true) (ha : T n Γ ma x) : T n Γ (mIfE c ma mb) x := fun env A B => by unfold mIfE; rw [hc env A B]; exact ha env A B
theorem t_ifEF {c : EnvM → Bag → Res Bool} (hc : T n Γ c false) (hb : T n Γ mb x) : T n Γ (mIfE c ma mb) x := fun env A B => by unfold mIfE; rw [hc env A B]; exact hb env A B
theorem j_ifET {c : EnvM → Bag → Res Bool} (hc : T n Γ c true) (ha : J n Γ ma Pa ea) : J n Γ (mIfE c ma mb) Pa ea := fun env A B a B' r => by unfold mIfE; rw [hc env A B]; exact ha env A _ _ _ r
theorem j_ifEF {c : EnvM → Bag → Res Bool} (hc : T n Γ c false) (hb : J n Γ mb Pa ea) : J n Γ (mIfE c ma mb) Pa ea := fun env A B a B' r => by unfold mIfE; rw [hc env A B]; exact hb env A _ _ _ r
theorem j_ifE {c : EnvM → Bag → Res Bool} {k : Bool} {Q : M α} (hc : T n Γ c k) (ha : J n Γ ma Pa ea) (hb : J n Γ mb Q ea) : J n Γ (mIfE c ma mb) (if k = true then Pa else Q) ea := fun env A B a B' r => by
  unfold mIfE; rw [hc env A B]
  cases k with
  | true => exact ha env A _ _ _ r
  | false => exact hb env A _ _ _ r
theorem j_ifEM {c : EnvM → Bag → Res Bool} {P : M Bool} {Q : M α} (hc : J n Γ c P id) (ha : J n Γ ma Pa ea) (hb : J n Γ mb Q ea) : J n Γ (mIfE c ma mb) (P >>= fun k => if k = true then Pa else Q) ea := fun env A B a B' r => by
  obtain ⟨k, B1, r1, r⟩ := rnB r
  unfold mIfE; rw [hc env A _ _ _ r1]
  cases k with
  | true => exact ha env A _ _ _ r
  | false => exact hb env A _ _ _ r
/-! what is walked -/
theorem t_seqL {ds : List PD} (h : T n Γ ma (.list ds)) : T n Γ (mSeqOfS ma) ds := fun env A B => r_seqL (h env A B)
theorem t_seqT {ds : List PD} (h : T n Γ ma (.tuple ds)) : T n Γ (mSeqOfS ma) ds := fun env A B => r_seqT (h env A B)
theorem j_seqL {ds : α → List PD} (h : J n Γ ma Pa (fun a => .list (ds a))) : J n Γ (mSeqOfS ma) Pa ds := fun env A B a B' r => r_seqL (h env A _ _ _ r)
theorem j_seqT {ds : α → List PD} (h : J n Γ ma Pa (fun a => .tuple (ds a))) : J n Γ (mSeqOfS ma) Pa ds := fun env A B a B' r => r_seqT (h env A _ _ _ r)
def rng (lo : Int) (k : Nat) : List Int := (List.range k).map fun i : Nat => lo + (i : Int)
theorem rangeP_rng (lo : Int) (k : Nat) : rangeP lo k = (rng lo k).map PyData.int := by
  unfold rangeP rng
  rw [List.map_map]; rfl
def range1 (j : Int) : Option (List Int) := if -(2 ^ 62) ≤ j ∧ j < 2 ^ 62 then some (rng 0 j.toNat) else none
def range2 (i j : Int) : Option (List Int) := if -(2 ^ 62) ≤ i ∧ i < 2 ^ 62 ∧ -(2 ^ 62) ≤ j ∧ j < 2 ^ 62 then some (rng i (j - i).toNat) else none
theorem j_range1 {m : EnvM → Bag → Res (List SV)} {sv : α → List SV} {F : α → Int} (h : J n Γ m Pa sv) (hu : ∀ a, unD (sv a) = some [.int (F a)]) : J n Γ (mRange1 m) (Pa >>= fun a => (up (range1 (F a)) : M (List Int))) (List.map PyData.int) := fun env A B c B' r => by
  obtain ⟨a, B1, r1, r⟩ := rnB r
  obtain ⟨q, rfl⟩ := rnU r
  unfold range1 at q
  by_cases hj : -(2 ^ 62) ≤ F a ∧ F a < 2 ^ 62
  · rw [if_pos hj] at q
    cases q
    unfold mRange1; rw [h env A _ _ _ r1]
    simp only [Res.bind, hu, if_pos hj, rangeP_rng]
  · rw [if_neg hj] at q; cases q
theorem j_range1P {m : EnvM → Bag → Res (List SV)} {ss : List SV} {j : Int} (h : T n Γ m ss) (hu : unD ss = some [.int j]) : J n Γ (mRange1 m) (up (range1 j) : M (List Int)) (List.map PyData.int) := fun env A B c B' r => by
  obtain ⟨q, rfl⟩ := rnU r
  unfold range1 at q
  by_cases hj : -(2 ^ 62) ≤ j ∧ j < 2 ^ 62
  · rw [if_pos hj] at q
    cases q
    unfold mRange1; rw [h env A _]
    simp only [Res.bind, hu, if_pos hj, rangeP_rng]
  · rw [if_neg hj] at q; cases q
theorem j_range2 {m : EnvM → Bag → Res (List SV)} {sv : α → List SV} {F G : α → Int} (h : J n Γ m Pa sv) (hu : ∀ a, unD (sv a) = some [.int (F a), .int (G a)]) : J n Γ (mRange2 m) (Pa >>= fun a => (up (range2 (F a) (G a)) : M (List Int))) (List.map PyData.int) := fun env A B c B' r => by
  obtain ⟨a, B1, r1, r⟩ := rnB r
  obtain ⟨q, rfl⟩ := rnU r
  unfold range2 at q
  by_cases hj : -(2 ^ 62) ≤ F a ∧ F a < 2 ^ 62 ∧ -(2 ^ 62) ≤ G a ∧ G a < 2 ^ 62
  · rw [if_pos hj] at q
    cases q
    unfold mRange2; rw [h env A _ _ _ r1]
    simp only [Res.bind, hu, if_pos hj, rangeP_rng]
  · rw [if_neg hj] at q; cases q
/-- a literal bound -/
theorem range1_lit {j : Int} (h : -(2 ^ 62) ≤ j ∧ j < 2 ^ 62) : range1 j = some (rng 0 j.toNat) := if_pos h
def enumT : Nat → List α → List (Int × α)
  | _, [] => []
  | k, x :: r => ((k : Int), x) :: enumT (k + 1) r
theorem enumT_map (e : α → PD) : ∀ (k : Nat) (xs : List α), enumFrom k (xs.map e) = (enumT k xs).map fun p => .tuple [.int p.1, e p.2]
  | _, [] => rfl
  | k, x :: r => by rw [List.map_cons]; unfold enumFrom enumT; rw [enumT_map e (k + 1) r]; rfl
theorem t_enumL {e : α → PD} {xs : List α} (h : T n Γ ma (.list (xs.map e))) : T n Γ (mEnum ma) ((enumT 0 xs).map fun p => .tuple [.int p.1, e p.2]) := fun env A B => by
  unfold mEnum; rw [h env A B]; show Res.ok (enumP _) B = _; unfold enumP; rw [enumT_map]
theorem t_enumT {e : α → PD} {xs : List α} (h : T n Γ ma (.tuple (xs.map e))) : T n Γ (mEnum ma) ((enumT 0 xs).map fun p => .tuple [.int p.1, e p.2]) := fun env A B => by
  unfold mEnum; rw [h env A B]; show Res.ok (enumP _) B = _; unfold enumP; rw [enumT_map]
theorem j_enumL {e : β → PD} {F : α → List β} (h : J n Γ ma Pa (fun a => .list ((F a).map e))) : J n Γ (mEnum ma) (Pa >>= fun a => (pure (enumT 0 (F a)) : M (List (Int × β)))) (List.map fun p => .tuple [.int p.1, e p.2]) := fun env A B c B' r => by
  obtain ⟨a, B1, r1, r⟩ := rnB r
  obtain ⟨rfl, rfl⟩ := rnP r
  unfold mEnum; rw [h env A _ _ _ r1]; show Res.ok (enumP _) _ = _; unfold enumP; rw [enumT_map]
theorem j_enumT {e : β → PD} {F : α → List β} (h : J n Γ ma Pa (fun a => .tuple ((F a).map e))) : J n Γ (mEnum ma) (Pa >>= fun a => (pure (enumT 0 (F a)) : M (List (Int × β)))) (List.map fun p => .tuple [.int p.1, e p.2]) := fun env A B c B' r => by
  obtain ⟨a, B1, r1, r⟩ := rnB r
  obtain ⟨rfl, rfl⟩ := rnP r
  unfold mEnum; rw [h env A _ _ _ r1]; show Res.ok (enumP _) _ = _; unfold enumP; rw [enumT_map]
theorem pair_map (e : α → PD) (e' : β → PD) : ∀ (xs : List α) (ys : List β), pairP (xs.map e) (ys.map e') = (xs.zip ys).map fun p => .tuple [e p.1, e' p.2]
  | [], ys => rfl
  | _ :: _, [] => rfl
  | x :: xs, y :: ys => by
    have := pair_map e e' xs ys
    unfold pairP at this ⊢
    simp only [List.map_cons, List.zipWith_cons_cons, List.zip_cons_cons, this]
theorem t_zipL {m : EnvM → Bag → Res (List SV)} {e : α → PD} {e' : β → PD} {xs : List α} {ys : List β} (h : T n Γ m [.d (.list (xs.map e)), .d (.list (ys.map e'))]) : T n Γ (mZip m) ((xs.zip ys).map fun p => .tuple [e p.1, e' p.2]) := fun env A B => by
  unfold mZip; rw [h env A B]; show Res.ok (pairP _ _) B = _; rw [pair_map]
theorem t_zipT {m : EnvM → Bag → Res (List SV)} {e : α → PD} {e' : β → PD} {xs : List α} {ys : List β} (h : T n Γ m [.d (.tuple (xs.map e)), .d (.tuple (ys.map e'))]) : T n Γ (mZip m) ((xs.zip ys).map fun p => .tuple [e p.1, e' p.2]) := fun env A B => by
  unfold mZip; rw [h env A B]; show Res.ok (pairP _ _) B = _; rw [pair_map]
theorem j_zipL {m : EnvM → Bag → Res (List SV)} {e : β → PD} {e' : γ → PD} {sv : α → List SV} {F : α → List β} {G : α → List γ} (h : J n Γ m Pa sv) (hu : ∀ a, unD (sv a) = some [.list ((F a).map e), .list ((G a).map e')]) : J n Γ (mZip m) (Pa >>= fun a => (pure ((F a).zip (G a)) : M (List (β × γ)))) (List.map fun p => .tuple [e p.1, e' p.2]) := fun env A B c B' r => by
  obtain ⟨a, B1, r1, r⟩ := rnB r
  obtain ⟨rfl, rfl⟩ := rnP r
  unfold mZip; rw [h env A _ _ _ r1]; simp only [Res.bind, hu, pair_map]
theorem j_zipT {m : EnvM → Bag → Res (List SV)} {e : β → PD} {e' : γ → PD} {sv : α → List SV} {F : α → List β} {G : α → List γ} (h : J n Γ m Pa sv) (hu : ∀ a, unD (sv a) = some [.tuple ((F a).map e), .tuple ((G a).map e')]) : J n Γ (mZip m) (Pa >>= fun a => (pure ((F a).zip (G a)) : M (List (β × γ)))) (List.map fun p => .tuple [e p.1, e' p.2]) := fun env A B c B' r => by
  obtain ⟨a, B1, r1, r⟩ := rnB r
  obtain ⟨rfl, rfl⟩ := rnP r
  unfold mZip; rw [h env A _ _ _ r1]; simp only [Res.bind, hu, pair_map]
/-! own lists, read -/
theorem t_lenOwn {i : Nat} {xs : List PD} (h : Γ.lookup i = some (some (.own xs))) : T n Γ (mLenOwn i) (.int (xs.length : Int)) := fun env A B => by unfold mLenOwn; rw [A.get _ _ h]
theorem j_ixOwn {i : Nat} {e : α → PD} {xs : List α} {P : M Int} (h : Γ.lookup i = some (some (.own (xs.map e)))) (hi : J n Γ ma P PyData.int) : J n Γ (mIxOwn i ma) (P >>= fun k => (up (atI xs k) : M α)) e := fun env A B c B' r => by
  obtain ⟨a, B1, r1, r⟩ := rnB r
  obtain ⟨q, rfl⟩ := rnU r
  unfold mIxOwn; rw [A.get _ _ h]
  simp only [hi env A _ _ _ r1, Res.bind]
  have : atI (xs.map e) a = some (e c) := by
    unfold atI at q ⊢
    rw [List.length_map]
    cases z : ixN xs.length a with
    | none => rw [z] at q; cases q
    | some j =>
      rw [z] at q
      have q : xs[j]? = some c := q
      show (xs.map e)[j]? = _
      rw [List.getElem?_map, q]; rfl
  rw [this]
theorem atI_map {e : α → PD} {xs : List α} {k : Int} {c : α} (q : atI xs k = some c) : atI (xs.map e) k = some (e c) := by
  unfold atI at q ⊢
  rw [List.length_map]
  cases z : ixN xs.length k with
  | none => rw [z] at q; cases q
  | some j =>
      rw [z] at q
      have q : xs[j]? = some c := q
      show (xs.map e)[j]? = _
      rw [List.getElem?_map, q]; rfl
theorem j_ixOwnP {i : Nat} {e : α → PD} {xs : List α} {k : Int} (h : Γ.lookup i = some (some (.own (xs.map e)))) (hi : T n Γ ma (.int k)) : J n Γ (mIxOwn i ma) (up (atI xs k) : M α) e := fun env A B c B' r => by
  obtain ⟨q, rfl⟩ := rnU r
  unfold mIxOwn; rw [A.get _ _ h]
  simp only [hi env A B, Res.bind, atI_map (e := e) q]
theorem Ag.lendO {env : EnvM} (A : Ag n Γ env) {i : Nat} {xs : List PD} (h : Γ.lookup i = some (some (.own xs))) : Ag n ((i, some (.d (.list xs))) :: Γ) (lend i env) := by
  have g := A.get _ _ h
  unfold DL.lend
  rw [g]
  exact A.set (by rw [← A.len]; exact (List.getElem?_eq_some_iff.mp g).1) _
theorem Ag.lendD {env : EnvM} (A : Ag n Γ env) {i : Nat} {xs : List (PD × PD)} (h : Γ.lookup i = some (some (.ownD xs))) : Ag n ((i, some (.d (.dict xs))) :: Γ) (lend i env) := by
  have g := A.get _ _ h
  unfold DL.lend
  rw [g]
  exact A.set (by rw [← A.len]; exact (List.getElem?_eq_some_iff.mp g).1) _
theorem t_lendE {i : Nat} {xs : List PD} (h : Γ.lookup i = some (some (.own xs))) (hm : T n ((i, some (.d (.list xs))) :: Γ) ma x) (hf : flatP x = true) : T n Γ (mLendE i ma) x := fun env A B => by
  unfold mLendE; rw [hm _ (A.lendO h) B]; simp only [hf, if_true]
theorem j_lendE {i : Nat} {xs : List PD} (h : Γ.lookup i = some (some (.own xs))) (hm : J n ((i, some (.d (.list xs))) :: Γ) ma Pa ea) (hf : ∀ a, flatP (ea a) = true) : J n Γ (mLendE i ma) Pa ea := fun env A B c B' r => by
  unfold mLendE; rw [hm _ (A.lendO h) _ _ _ r]; simp only [hf, if_true]
theorem t_lendT {i : Nat} {xs : List PD} {m : EnvM → Bag → Res Bool} {k : Bool} (h : Γ.lookup i = some (some (.own xs))) (hm : T n ((i, some (.d (.list xs))) :: Γ) m k) : T n Γ (mLendT i m) k := fun env A B => by
  unfold mLendT; rw [hm _ (A.lendO h) B]
theorem j_lendT {i : Nat} {xs : List PD} {m : EnvM → Bag → Res Bool} {P : M Bool} (h : Γ.lookup i = some (some (.own xs))) (hm : J n ((i, some (.d (.list xs))) :: Γ) m P id) : J n Γ (mLendT i m) P id := fun env A B c B' r => by
  unfold mLendT; rw [hm _ (A.lendO h) _ _ _ r]
/-! targets -/
/-- a target takes a: what the slots hold then -/
def Tg (n : Nat) (g : PD → EnvM → Option EnvM) (d : PD) (f : Ctx → Ctx) : Prop := ∀ Γ env, Ag n Γ env → ∃ env', g d env = some env' ∧ Ag n (f Γ) env'
def Tgs (n : Nat) (g : List PD → EnvM → Option EnvM) (ds : List PD) (f : Ctx → Ctx) : Prop := ∀ Γ env, Ag n Γ env → ∃ env', g ds env = some env' ∧ Ag n (f Γ) env'
theorem tg_name {i : Nat} {d : PD} (h : i < n) : Tg n (mgName i) d (fun Γ => (i, some (.d d)) :: Γ) := fun Γ env A => ⟨_, rfl, A.set h _⟩
theorem tg_nil : Tgs n mgNil [] id := fun Γ env A => ⟨env, rfl, A⟩
theorem tg_cons {a : PD → EnvM → Option EnvM} {r : List PD → EnvM → Option EnvM} {d : PD} {ds : List PD} {f g : Ctx → Ctx} (h : Tg n a d f) (h2 : Tgs n r ds g) : Tgs n (mgCons a r) (d :: ds) (fun Γ => g (f Γ)) := fun Γ env A => by
  obtain ⟨e1, q1, A1⟩ := h Γ env A
  obtain ⟨e2, q2, A2⟩ := h2 _ e1 A1
  exact ⟨e2, by show (a d env).bind (r ds) = _; rw [q1]; exact q2, A2⟩
theorem tg_tup {r : List PD → EnvM → Option EnvM} {ds : List PD} {k : Nat} {f : Ctx → Ctx} (h : Tgs n r ds f) (hl : ds.length = k) : Tg n (mgTup r k) (.tuple ds) f := fun Γ env A => by
  obtain ⟨e1, q1, A1⟩ := h Γ env A
  exact ⟨e1, by show (if ds.length = k then r ds env else none) = _; rw [if_pos hl]; exact q1, A1⟩
/-! comprehensions -/
def gd {α : Type} (p : Prop) [Decidable p] (x : α) : Option α := if p then some x else none
theorem gd_some {α : Type} {p : Prop} [Decidable p] {x y : α} (h : gd p x = some y) : p ∧ x = y := by
  unfold gd at h
  by_cases c : p
  · rw [if_pos c] at h; cases h; exact ⟨c, rfl⟩
  · rw [if_neg c] at h; cases h
theorem gd_of {α : Type} {p : Prop} {i : Decidable p} {x : α} (h : p) : @gd α p i x = some x := if_pos h
def lcM (c : α → M Bool) (f : α → M β) : List α → M (List β)
  | [] => pure []
  | x :: xs => c x >>= fun k => if k = true then f x >>= fun y => lcM c f xs >>= fun ys => pure (y :: ys) else lcM c f xs
def lcY (f : α → M β) : List α → M (List β)
  | [] => pure []
  | x :: xs => f x >>= fun y => lcY f xs >>= fun ys => pure (y :: ys)
theorem lc_go {vs : List Nat} {g : PD → EnvM → Option EnvM} {c : EnvM → Bag → Res Bool} {m : EnvM → Bag → Res PD} {enc : α → PD} {cM : α → M Bool} {fM : α → M β} {fc : α → Ctx → Ctx} (hg : ∀ a, Tg n g (enc a) (fc a))
    (hc : ∀ a, J n (fc a (wipeC vs Γ)) c (cM a) id) (hm : ∀ a, J n (fc a (wipeC vs Γ)) m (fM a) eb) {env : EnvM} (A : Ag n Γ env) : ∀ (xs : List α) (B : Bag) (ys : List β) (B' : Bag), rn (lcM cM fM xs) B = some (ys, B') → mLcGo g c m (wipeE env vs) (xs.map enc) B = .ok (ys.map eb) B'
  | [], B, ys, B', r => by
    obtain ⟨rfl, rfl⟩ := rnP r; rfl
  | x :: xs, B, ys, B', r => by
    unfold lcM at r
    obtain ⟨k, B1, r1, r⟩ := rnB r
    obtain ⟨e1, q1, A1⟩ := hg x _ _ (A.wipe vs)
    have h1 := hc x _ A1 _ _ _ r1
    rw [List.map_cons]
    unfold mLcGo
    cases k with
    | true =>
      rw [if_pos rfl] at r
      obtain ⟨y, B2, r2, r⟩ := rnB r
      obtain ⟨zs, B3, r3, r⟩ := rnB r
      obtain ⟨rfl, rfl⟩ := rnP r
      have h2 := hm x _ A1 _ _ _ r2
      have h3 := lc_go hg hc hm A xs _ _ _ r3
      simp only [q1, h1, id, h2, h3, List.map_cons]
    | false =>
      rw [if_neg Bool.false_ne_true] at r
      have h3 := lc_go hg hc hm A xs _ _ _ r
      simp only [q1, h1, id, h3]
theorem lcY_lcM (f : α → M β) : ∀ (xs : List α) (B : Bag), rn (lcM (fun _ => (pure true : M Bool)) f xs) B = rn (lcY f xs) B
  | [], B => rfl
  | x :: xs, B => by
    unfold lcM lcY
    rw [Rn.rn_bind, Rn.rn_pure]
    simp only [Option.bind_some, if_true]
    rw [Rn.rn_bind, Rn.rn_bind]
    congr 1
    funext p
    rw [Rn.rn_bind, Rn.rn_bind, lcY_lcM f xs]
theorem j_lc {vs : List Nat} {mi : EnvM → Bag → Res (List PD)} {g : PD → EnvM → Option EnvM} {c : EnvM → Bag → Res Bool} {m : EnvM → Bag → Res PD} {enc : α → PD} {Pi : M (List α)} {cM : α → M Bool} {fM : α → M β} {fc : α → Ctx → Ctx} (hi : J n Γ mi Pi (List.map enc)) (hg : ∀ a, Tg n g (enc a) (fc a))
    (hc : ∀ a, J n (fc a (wipeC vs Γ)) c (cM a) id) (hm : ∀ a, J n (fc a (wipeC vs Γ)) m (fM a) eb) : J n Γ (mLc vs mi g c m) (Pi >>= fun xs => (up (gd (xs.length ≤ sizeLine) ()) : M Unit) >>= fun _ => lcM cM fM xs) (fun ys => .list (ys.map eb)) := fun env A B ys B' r => by
  obtain ⟨xs, B1, r1, r⟩ := rnB r
  obtain ⟨u, B2, r2, r3⟩ := rnB r
  obtain ⟨q, rfl⟩ := rnU r2
  have hl := (gd_some q).1
  exact r_lc (hi env A _ _ _ r1) (by rw [List.length_map]; exact hl) (lc_go hg hc hm A xs _ _ _ r3)
theorem j_lcY {vs : List Nat} {mi : EnvM → Bag → Res (List PD)} {g : PD → EnvM → Option EnvM} {m : EnvM → Bag → Res PD} {enc : α → PD} {Pi : M (List α)} {fM : α → M β} {fc : α → Ctx → Ctx} (hi : J n Γ mi Pi (List.map enc)) (hg : ∀ a, Tg n g (enc a) (fc a))
    (hm : ∀ a, J n (fc a (wipeC vs Γ)) m (fM a) eb) : J n Γ (mLc vs mi g mYes m) (Pi >>= fun xs => (up (gd (xs.length ≤ sizeLine) ()) : M Unit) >>= fun _ => lcY fM xs) (fun ys => .list (ys.map eb)) := fun env A B ys B' r => by
  obtain ⟨xs, B1, r1, r⟩ := rnB r
  obtain ⟨u, B2, r2, r3⟩ := rnB r
  obtain ⟨q, rfl⟩ := rnU r2
  have hl := (gd_some q).1
  rw [← lcY_lcM] at r3
  exact r_lc (hi env A _ _ _ r1) (by rw [List.length_map]; exact hl) (lc_go (c := mYes) (cM := fun _ => (pure true : M Bool)) hg (fun a env A B b B' q => by obtain ⟨rfl, rfl⟩ := rnP q; rfl) hm A xs _ _ _ r3)
/-- plain elements -/
theorem rn_lcY_pure (f : α → β) : ∀ (xs : List α) (B : Bag), rn (lcY (fun x => (pure (f x) : M β)) xs) B = some (xs.map f, B)
  | [], B => Rn.rn_pure _ _
  | x :: xs, B => by
    unfold lcY
    rw [Rn.rn_bind, Rn.rn_pure]
    simp only [Option.bind_some]
    rw [Rn.rn_bind, rn_lcY_pure f xs]
    simp only [Option.bind_some, Rn.rn_pure, List.map_cons]
theorem rn_lcM_pure (p : α → Bool) (f : α → β) : ∀ (xs : List α) (B : Bag), rn (lcM (fun x => (pure (p x) : M Bool)) (fun x => (pure (f x) : M β)) xs) B = some ((xs.filter p).map f, B)
  | [], B => Rn.rn_pure _ _
  | x :: xs, B => by
    unfold lcM
    rw [Rn.rn_bind, Rn.rn_pure]
    simp only [Option.bind_some]
    cases h : p x with
    | true =>
      rw [if_pos rfl, Rn.rn_bind, Rn.rn_pure]
      simp only [Option.bind_some]
      rw [Rn.rn_bind, rn_lcM_pure p f xs]
      simp only [Option.bind_some, Rn.rn_pure, List.filter_cons, h, if_true, List.map_cons]
    | false =>
      rw [if_neg Bool.false_ne_true, rn_lcM_pure p f xs, List.filter_cons, h]
      simp
theorem j_lcT {vs : List Nat} {mi : EnvM → Bag → Res (List PD)} {g : PD → EnvM → Option EnvM} {c : EnvM → Bag → Res Bool} {m : EnvM → Bag → Res PD} {enc : α → PD} {Pi : M (List α)} {p : α → Bool} {f : α → β} {fc : α → Ctx → Ctx} (hi : J n Γ mi Pi (List.map enc)) (hg : ∀ a, Tg n g (enc a) (fc a))
    (hc : ∀ a, T n (fc a (wipeC vs Γ)) c (p a)) (hm : ∀ a, T n (fc a (wipeC vs Γ)) m (eb (f a))) : J n Γ (mLc vs mi g c m) (Pi >>= fun xs => (up (gd (xs.length ≤ sizeLine) ((xs.filter p).map f)) : M (List β))) (fun ys => .list (ys.map eb)) := fun env A B ys B' r => by
  obtain ⟨xs, B1, r1, r⟩ := rnB r
  obtain ⟨q, rfl⟩ := rnU r
  obtain ⟨hl, rfl⟩ := gd_some q
  exact r_lc (hi env A _ _ _ r1) (by rw [List.length_map]; exact hl) (lc_go (M := M) (cM := fun a => pure (p a)) (fM := fun a => pure (f a)) hg (fun a => T.j (e := id) (hc a)) (fun a => (hm a).j) A xs _ _ _ (rn_lcM_pure p f xs _))
theorem j_lcYT {vs : List Nat} {mi : EnvM → Bag → Res (List PD)} {g : PD → EnvM → Option EnvM} {m : EnvM → Bag → Res PD} {enc : α → PD} {Pi : M (List α)} {f : α → β} {fc : α → Ctx → Ctx} (hi : J n Γ mi Pi (List.map enc)) (hg : ∀ a, Tg n g (enc a) (fc a))
    (hm : ∀ a, T n (fc a (wipeC vs Γ)) m (eb (f a))) : J n Γ (mLc vs mi g mYes m) (Pi >>= fun xs => (up (gd (xs.length ≤ sizeLine) (xs.map f)) : M (List β))) (fun ys => .list (ys.map eb)) := fun env A B ys B' r => by
  obtain ⟨xs, B1, r1, r⟩ := rnB r
  obtain ⟨q, rfl⟩ := rnU r
  obtain ⟨hl, rfl⟩ := gd_some q
  have e := rn_lcY_pure (M := M) f xs B1
  rw [← lcY_lcM] at e
  exact r_lc (hi env A _ _ _ r1) (by rw [List.length_map]; exact hl) (lc_go (M := M) (c := mYes) (cM := fun _ => (pure true : M Bool)) (fM := fun a => pure (f a)) hg (fun a env A B b B' q => by obtain ⟨rfl, rfl⟩ := rnP q; rfl) (fun a => (hm a).j) A xs _ _ _ e)
end
end TL
set_option Elab.async false
set_option linter.all false
set_option maxRecDepth 100000
set_option maxHeartbeats 4000000
/-! TL2: judgements of statements. -/
namespace TL
open PySem L2 DL
open Rn (rn up)
/-- how statements end -/
inductive Out (σ β ρ : Type) where
  | nx (s : σ)
  | bk (s : β)
  | ct (s : β)
  | rt (r : ρ)
section
variable {M : Type → Type} [Rn M] {α σ σ' β ρ : Type}
def NJ (n : Nat) (Γ : Ctx) (m : EnvM → Bag → SRes) (P : M σ) (Γ1 : σ → Ctx) : Prop := ∀ env, Ag n Γ env → ∀ B s B', rn P B = some (s, B') → ∃ env', m env B = .nx env' B' ∧ Ag n (Γ1 s) env'
def RJ (n : Nat) (Γ : Ctx) (m : EnvM → Bag → SRes) (P : M ρ) (e : ρ → PD) : Prop := ∀ env, Ag n Γ env → ∀ B r B', rn P B = some (r, B') → m env B = .ret (e r) B'
def OutOk (n : Nat) (Γ1 : σ → Ctx) (Γ2 : β → Ctx) (e : ρ → PD) (r : SRes) (B' : Bag) : Out σ β ρ → Prop
  | .nx s => ∃ env', r = .nx env' B' ∧ Ag n (Γ1 s) env'
  | .bk s => ∃ env', r = .bk env' B' ∧ Ag n (Γ2 s) env'
  | .ct s => ∃ env', r = .ct env' B' ∧ Ag n (Γ2 s) env'
  | .rt x => r = .ret (e x) B'
def SJ (n : Nat) (Γ : Ctx) (m : EnvM → Bag → SRes) (P : M (Out σ β ρ)) (Γ1 : σ → Ctx) (Γ2 : β → Ctx) (e : ρ → PD) : Prop := ∀ env, Ag n Γ env → ∀ B o B', rn P B = some (o, B') → OutOk n Γ1 Γ2 e (m env B) B' o
end
section
variable {M : Type → Type} [Rn M] {α σ σ' τ β β' ρ : Type} {n : Nat} {Γ : Ctx} {Γ1 : σ → Ctx} {Γ2 : β → Ctx} {er : ρ → PD} {a b : EnvM → Bag → SRes} {me : EnvM → Bag → Res PD} {mc : EnvM → Bag → Res Bool}
/-! ends of blocks -/
theorem n_skip {s : σ} (h : Sb (Γ1 s) Γ) : NJ n Γ mSkip (pure s : M σ) Γ1 := fun env A B s' B' r => by
  obtain ⟨rfl, rfl⟩ := rnP r
  exact ⟨env, rfl, A.sub h⟩
theorem n_end {P : M σ} {Γ3 : τ → Ctx} {F : σ → τ} (h : NJ n Γ a P Γ1) (hs : ∀ s, Sb (Γ3 (F s)) (Γ1 s)) : NJ n Γ a (P >>= fun s => (pure (F s) : M τ)) Γ3 := fun env A B s' B' r => by
  obtain ⟨s, B1, r1, r2⟩ := rnB r
  obtain ⟨rfl, rfl⟩ := rnP r2
  obtain ⟨env', h1, A1⟩ := h env A _ _ _ r1
  exact ⟨env', h1, A1.sub (hs s)⟩
theorem n_sub {P : M σ} {Γ3 : σ → Ctx} (h : NJ n Γ a P Γ1) (hs : ∀ s, Sb (Γ3 s) (Γ1 s)) : NJ n Γ a P Γ3 := fun env A B s' B' r => by
  obtain ⟨env', h1, A1⟩ := h env A _ _ _ r
  exact ⟨env', h1, A1.sub (hs _)⟩
theorem o_nx {s : σ} (h : Sb (Γ1 s) Γ) : SJ n Γ mSkip (pure (.nx s) : M (Out σ β ρ)) Γ1 Γ2 er := fun env A B s' B' r => by
  obtain ⟨rfl, rfl⟩ := rnP r
  exact ⟨env, rfl, A.sub h⟩
theorem o_bk {s : β} (h : Sb (Γ2 s) Γ) : SJ n Γ mBreak (pure (.bk s) : M (Out σ β ρ)) Γ1 Γ2 er := fun env A B s' B' r => by
  obtain ⟨rfl, rfl⟩ := rnP r
  exact ⟨env, rfl, A.sub h⟩
theorem o_ct {s : β} (h : Sb (Γ2 s) Γ) : SJ n Γ mCont (pure (.ct s) : M (Out σ β ρ)) Γ1 Γ2 er := fun env A B s' B' r => by
  obtain ⟨rfl, rfl⟩ := rnP r
  exact ⟨env, rfl, A.sub h⟩
theorem o_n {P : M τ} {Γ3 : τ → Ctx} {F : τ → σ} (h : NJ n Γ a P Γ3) (hs : ∀ s, Sb (Γ1 (F s)) (Γ3 s)) : SJ n Γ a (P >>= fun s => (pure (.nx (F s)) : M (Out σ β ρ))) Γ1 Γ2 er := fun env A B s' B' r => by
  obtain ⟨s, B1, r1, r2⟩ := rnB r
  obtain ⟨rfl, rfl⟩ := rnP r2
  obtain ⟨env', h1, A1⟩ := h env A _ _ _ r1
  exact ⟨env', h1, A1.sub (hs s)⟩
theorem r_return {P : M ρ} (h : J n Γ me P er) : RJ n Γ (mRet me) P er := fun env A B r B' q => by
  unfold mRet; rw [h env A _ _ _ q]; rfl
theorem r_returnN : RJ n Γ mRetN (pure () : M Unit) (fun _ => .none) := fun env A B r B' q => by
  obtain ⟨rfl, rfl⟩ := rnP q; rfl
theorem o_r {P : M ρ} (h : RJ n Γ a P er) : SJ n Γ a (P >>= fun r => (pure (.rt r) : M (Out σ β ρ))) Γ1 Γ2 er := fun env A B s' B' r => by
  obtain ⟨s, B1, r1, r2⟩ := rnB r
  obtain ⟨rfl, rfl⟩ := rnP r2
  exact h env A _ _ _ r1
/-! one behind another -/
theorem n_seq {P : M σ} {Q : σ → M τ} {Γ3 : τ → Ctx} (h : NJ n Γ a P Γ1) (h2 : ∀ s, NJ n (Γ1 s) b (Q s) Γ3) : NJ n Γ (mSeq a b) (P >>= Q) Γ3 := fun env A B s' B' r => by
  obtain ⟨s, B1, r1, r2⟩ := rnB r
  obtain ⟨e1, q1, A1⟩ := h env A _ _ _ r1
  obtain ⟨e2, q2, A2⟩ := h2 s e1 A1 _ _ _ r2
  exact ⟨e2, s_seq q1 q2, A2⟩
theorem n_seqR {P : M σ} {Q : σ → M ρ} (h : NJ n Γ a P Γ1) (h2 : ∀ s, RJ n (Γ1 s) b (Q s) er) : RJ n Γ (mSeq a b) (P >>= Q) er := fun env A B s' B' r => by
  obtain ⟨s, B1, r1, r2⟩ := rnB r
  obtain ⟨e1, q1, A1⟩ := h env A _ _ _ r1
  exact s_seq q1 (h2 s e1 A1 _ _ _ r2)
theorem n_seqO {P : M τ} {Γ3 : τ → Ctx} {Q : τ → M (Out σ β ρ)} (h : NJ n Γ a P Γ3) (h2 : ∀ s, SJ n (Γ3 s) b (Q s) Γ1 Γ2 er) : SJ n Γ (mSeq a b) (P >>= Q) Γ1 Γ2 er := fun env A B s' B' r => by
  obtain ⟨s, B1, r1, r2⟩ := rnB r
  obtain ⟨e1, q1, A1⟩ := h env A _ _ _ r1
  rw [s_seq q1 rfl]
  exact h2 s e1 A1 _ _ _ r2
/-- what goes on behind -/
def Out.on {M : Type → Type} [Rn M] {σ τ β ρ : Type} (Q : σ → M (Out τ β ρ)) : Out σ β ρ → M (Out τ β ρ)
  | .nx s => Q s
  | .bk s => pure (.bk s)
  | .ct s => pure (.ct s)
  | .rt r => pure (.rt r)
/-- .. where no loop is around, and a value comes of it -/
def Out.onR {M : Type → Type} [Rn M] {σ ρ : Type} (Q : σ → M ρ) : Out σ Empty ρ → M ρ
  | .nx s => Q s
  | .rt r => pure r
theorem o_seq {P : M (Out τ β ρ)} {Γ3 : τ → Ctx} {Q : τ → M (Out σ β ρ)} (h : SJ n Γ a P Γ3 Γ2 er) (h2 : ∀ s, SJ n (Γ3 s) b (Q s) Γ1 Γ2 er) : SJ n Γ (mSeq a b) (P >>= Out.on Q) Γ1 Γ2 er := fun env A B s' B' r => by
  obtain ⟨o, B1, r1, r2⟩ := rnB r
  have q := h env A _ _ _ r1
  cases o with
  | nx s =>
    obtain ⟨e1, q1, A1⟩ := q
    rw [s_seq q1 rfl]
    exact h2 s e1 A1 _ _ _ r2
  | bk s =>
    obtain ⟨rfl, rfl⟩ := rnP r2
    obtain ⟨e1, q1, A1⟩ := q
    exact ⟨e1, by unfold mSeq; rw [q1], A1⟩
  | ct s =>
    obtain ⟨rfl, rfl⟩ := rnP r2
    obtain ⟨e1, q1, A1⟩ := q
    exact ⟨e1, by unfold mSeq; rw [q1], A1⟩
  | rt x =>
    obtain ⟨rfl, rfl⟩ := rnP r2
    exact s_seqR q
theorem o_seqR {P : M (Out σ Empty ρ)} {Q : σ → M ρ} {Γ2 : Empty → Ctx} (h : SJ n Γ a P Γ1 Γ2 er) (h2 : ∀ s, RJ n (Γ1 s) b (Q s) er) : RJ n Γ (mSeq a b) (P >>= Out.onR Q) er := fun env A B s' B' r => by
  obtain ⟨o, B1, r1, r2⟩ := rnB r
  have q := h env A _ _ _ r1
  cases o with
  | nx s =>
    obtain ⟨e1, q1, A1⟩ := q
    exact s_seq q1 (h2 s e1 A1 _ _ _ r2)
  | bk s => exact s.elim
  | ct s => exact s.elim
  | rt x =>
    obtain ⟨rfl, rfl⟩ := rnP r2
    exact s_seqR q
theorem r_seqR {P : M ρ} (h : RJ n Γ a P er) : RJ n Γ (mSeq a b) P er := fun env A B s' B' r => s_seqR (h env A _ _ _ r)
/-! if -/
section
variable {P : M Bool} {k : Bool}
theorem if_at (h : mc env B = .ok k B1) : mIf mc a b env B = if k = true then a env B1 else b env B1 := by unfold mIf; rw [h]; rfl
theorem n_if {P1 P2 : M σ} (hc : T n Γ mc k) (h1 : NJ n Γ a P1 Γ1) (h2 : NJ n Γ b P2 Γ1) : NJ n Γ (mIf mc a b) (if k = true then P1 else P2) Γ1 := fun env A B s B' r => by
  rw [if_at (hc env A B)]
  cases k with
  | true => exact h1 env A _ _ _ r
  | false => exact h2 env A _ _ _ r
theorem n_ifM {P1 P2 : M σ} (hc : J n Γ mc P id) (h1 : NJ n Γ a P1 Γ1) (h2 : NJ n Γ b P2 Γ1) : NJ n Γ (mIf mc a b) (P >>= fun k => if k = true then P1 else P2) Γ1 := fun env A B s B' r => by
  obtain ⟨k, B1, q, r⟩ := rnB r
  rw [if_at (hc env A _ _ _ q)]
  cases k with
  | true => exact h1 env A _ _ _ r
  | false => exact h2 env A _ _ _ r
theorem r_if {P1 P2 : M ρ} (hc : T n Γ mc k) (h1 : RJ n Γ a P1 er) (h2 : RJ n Γ b P2 er) : RJ n Γ (mIf mc a b) (if k = true then P1 else P2) er := fun env A B s B' r => by
  rw [if_at (hc env A B)]
  cases k with
  | true => exact h1 env A _ _ _ r
  | false => exact h2 env A _ _ _ r
theorem r_ifM {P1 P2 : M ρ} (hc : J n Γ mc P id) (h1 : RJ n Γ a P1 er) (h2 : RJ n Γ b P2 er) : RJ n Γ (mIf mc a b) (P >>= fun k => if k = true then P1 else P2) er := fun env A B s B' r => by
  obtain ⟨k, B1, q, r⟩ := rnB r
  rw [if_at (hc env A _ _ _ q)]
  cases k with
  | true => exact h1 env A _ _ _ r
  | false => exact h2 env A _ _ _ r
theorem o_if {P1 P2 : M (Out σ β ρ)} (hc : T n Γ mc k) (h1 : SJ n Γ a P1 Γ1 Γ2 er) (h2 : SJ n Γ b P2 Γ1 Γ2 er) : SJ n Γ (mIf mc a b) (if k = true then P1 else P2) Γ1 Γ2 er := fun env A B s B' r => by
  rw [if_at (hc env A B)]
  cases k with
  | true => exact h1 env A _ _ _ r
  | false => exact h2 env A _ _ _ r
theorem o_ifM {P1 P2 : M (Out σ β ρ)} (hc : J n Γ mc P id) (h1 : SJ n Γ a P1 Γ1 Γ2 er) (h2 : SJ n Γ b P2 Γ1 Γ2 er) : SJ n Γ (mIf mc a b) (P >>= fun k => if k = true then P1 else P2) Γ1 Γ2 er := fun env A B s B' r => by
  obtain ⟨k, B1, q, r⟩ := rnB r
  rw [if_at (hc env A _ _ _ q)]
  cases k with
  | true => exact h1 env A _ _ _ r
  | false => exact h2 env A _ _ _ r
/-! if with a settled test -/
theorem n_ifT {P1 : M σ} (hc : T n Γ mc true) (h1 : NJ n Γ a P1 Γ1) : NJ n Γ (mIf mc a b) P1 Γ1 := fun env A B s B' r => by rw [if_at (hc env A B)]; exact h1 env A _ _ _ r
theorem n_ifF {P1 : M σ} (hc : T n Γ mc false) (h1 : NJ n Γ b P1 Γ1) : NJ n Γ (mIf mc a b) P1 Γ1 := fun env A B s B' r => by rw [if_at (hc env A B)]; exact h1 env A _ _ _ r
theorem r_ifTT {P1 : M ρ} (hc : T n Γ mc true) (h1 : RJ n Γ a P1 er) : RJ n Γ (mIf mc a b) P1 er := fun env A B s B' r => by rw [if_at (hc env A B)]; exact h1 env A _ _ _ r
theorem r_ifFF {P1 : M ρ} (hc : T n Γ mc false) (h1 : RJ n Γ b P1 er) : RJ n Γ (mIf mc a b) P1 er := fun env A B s B' r => by rw [if_at (hc env A B)]; exact h1 env A _ _ _ r
theorem o_ifT {P1 : M (Out σ β ρ)} (hc : T n Γ mc true) (h1 : SJ n Γ a P1 Γ1 Γ2 er) : SJ n Γ (mIf mc a b) P1 Γ1 Γ2 er := fun env A B s B' r => by rw [if_at (hc env A B)]; exact h1 env A _ _ _ r
theorem o_ifF {P1 : M (Out σ β ρ)} (hc : T n Γ mc false) (h1 : SJ n Γ b P1 Γ1 Γ2 er) : SJ n Γ (mIf mc a b) P1 Γ1 Γ2 er := fun env A B s B' r => by rw [if_at (hc env A B)]; exact h1 env A _ _ _ r
/-! if c: (returns); the rest -/
variable {c : EnvM → Bag → SRes}
theorem seq_if {env : EnvM} {B B1 : Bag} (h : mc env B = .ok k B1) : mSeq (mIf mc a b) c env B = if k = true then mSeq a c env B1 else mSeq b c env B1 := by
  unfold mSeq; rw [if_at h]
  cases k <;> rfl
theorem rs_if {P1 P2 : M ρ} (hc : T n Γ mc k) (h1 : RJ n Γ (mSeq a c) P1 er) (h2 : RJ n Γ (mSeq b c) P2 er) : RJ n Γ (mSeq (mIf mc a b) c) (if k = true then P1 else P2) er := fun env A B s B' r => by
  rw [seq_if (hc env A B)]
  cases k with
  | true => exact h1 env A _ _ _ r
  | false => exact h2 env A _ _ _ r
theorem rs_ifM {P1 P2 : M ρ} (hc : J n Γ mc P id) (h1 : RJ n Γ (mSeq a c) P1 er) (h2 : RJ n Γ (mSeq b c) P2 er) : RJ n Γ (mSeq (mIf mc a b) c) (P >>= fun k => if k = true then P1 else P2) er := fun env A B s B' r => by
  obtain ⟨k, B1, q, r⟩ := rnB r
  rw [seq_if (hc env A _ _ _ q)]
  cases k with
  | true => exact h1 env A _ _ _ r
  | false => exact h2 env A _ _ _ r
theorem os_if {P1 P2 : M (Out σ β ρ)} (hc : T n Γ mc k) (h1 : SJ n Γ (mSeq a c) P1 Γ1 Γ2 er) (h2 : SJ n Γ (mSeq b c) P2 Γ1 Γ2 er) : SJ n Γ (mSeq (mIf mc a b) c) (if k = true then P1 else P2) Γ1 Γ2 er := fun env A B s B' r => by
  rw [seq_if (hc env A B)]
  cases k with
  | true => exact h1 env A _ _ _ r
  | false => exact h2 env A _ _ _ r
theorem os_ifM {P1 P2 : M (Out σ β ρ)} (hc : J n Γ mc P id) (h1 : SJ n Γ (mSeq a c) P1 Γ1 Γ2 er) (h2 : SJ n Γ (mSeq b c) P2 Γ1 Γ2 er) : SJ n Γ (mSeq (mIf mc a b) c) (P >>= fun k => if k = true then P1 else P2) Γ1 Γ2 er := fun env A B s B' r => by
  obtain ⟨k, B1, q, r⟩ := rnB r
  rw [seq_if (hc env A _ _ _ q)]
  cases k with
  | true => exact h1 env A _ _ _ r
  | false => exact h2 env A _ _ _ r
theorem rs_skip {P : M ρ} (h : RJ n Γ c P er) : RJ n Γ (mSeq mSkip c) P er := h
theorem os_skip {P : M (Out σ β ρ)} (h : SJ n Γ c P Γ1 Γ2 er) : SJ n Γ (mSeq mSkip c) P Γ1 Γ2 er := h
theorem rs_ret {P : M ρ} (h : RJ n Γ a P er) : RJ n Γ (mSeq a c) P er := r_seqR h
theorem os_ret {P : M ρ} (h : RJ n Γ a P er) : SJ n Γ (mSeq a c) (P >>= fun r => (pure (.rt r) : M (Out σ β ρ))) Γ1 Γ2 er := o_r (r_seqR h)
theorem os_bk {s : β} (h : Sb (Γ2 s) Γ) : SJ n Γ (mSeq mBreak c) (pure (.bk s) : M (Out σ β ρ)) Γ1 Γ2 er := fun env A B s' B' r => by
  obtain ⟨rfl, rfl⟩ := rnP r
  exact ⟨env, rfl, A.sub h⟩
theorem os_ct {s : β} (h : Sb (Γ2 s) Γ) : SJ n Γ (mSeq mCont c) (pure (.ct s) : M (Out σ β ρ)) Γ1 Γ2 er := fun env A B s' B' r => by
  obtain ⟨rfl, rfl⟩ := rnP r
  exact ⟨env, rfl, A.sub h⟩
theorem seq_assoc {a b c : EnvM → Bag → SRes} : mSeq (mSeq a b) c = mSeq a (mSeq b c) := by
  funext env B
  unfold mSeq
  cases a env B <;> rfl
theorem rs_assoc {a' : EnvM → Bag → SRes} {P : M ρ} (h : RJ n Γ (mSeq a (mSeq a' c)) P er) : RJ n Γ (mSeq (mSeq a a') c) P er := by rw [seq_assoc]; exact h
theorem os_assoc {a' : EnvM → Bag → SRes} {P : M (Out σ β ρ)} (h : SJ n Γ (mSeq a (mSeq a' c)) P Γ1 Γ2 er) : SJ n Γ (mSeq (mSeq a a') c) P Γ1 Γ2 er := by rw [seq_assoc]; exact h
end
/-! simple statements -/
theorem n_set {P : M α} {e : α → PD} {g : PD → EnvM → Option EnvM} {f : α → Ctx → Ctx} (h : J n Γ me P e) (hg : ∀ x, Tg n g (e x) (f x)) : NJ n Γ (mSet g me) P (fun x => f x Γ) := fun env A B s B' r => by
  obtain ⟨e1, q1, A1⟩ := hg s Γ env A
  exact ⟨e1, s_set (h env A _ _ _ r) q1, A1⟩
theorem n_par {i j : Nat} {P : M α} {m : EnvM → Bag → Res (List SV)} {sv : α → List SV} {x y : α → PD} (h : J n Γ m P sv) (hu : ∀ p, sv p = [.d (x p), .d (y p)]) (hi : i < n) (hj : j < n) : NJ n Γ (mPar i j m) P (fun p => (j, some (.d (y p))) :: (i, some (.d (x p))) :: Γ) := fun env A B s B' r => by
  have q := h env A _ _ _ r
  rw [hu] at q
  exact ⟨_, s_par q, (A.set hi _).set hj _⟩
theorem n_drop {P : M α} {e : α → PD} (h : J n Γ me P e) : NJ n Γ (mDrop me) P (fun _ => Γ) := fun env A B s B' r => by
  refine ⟨env, ?_, A⟩
  unfold mDrop; rw [h env A _ _ _ r]; rfl
theorem n_aug {i : Nat} {f : Int → Int → Int} {x : Int} {P : M Int} (hx : Γ.lookup i = some (some (.d (.int x)))) (h : J n Γ me P PyData.int) (hi : i < n) : NJ n Γ (mAug i f me) P (fun y => (i, some (.d (.int (f x y)))) :: Γ) := fun env A B s B' r => by
  refine ⟨_, ?_, A.set hi _⟩
  unfold mAug; rw [A.get _ _ hx]; simp only [h env A _ _ _ r, Res.s]
/-! own lists -/
theorem n_own {i : Nat} {P : M (List α)} {e : α → PD} {m : EnvM → Bag → Res (List SV)} (h : J n Γ m P (fun xs => xs.map fun x => SV.d (e x))) (hi : i < n) : NJ n Γ (mOwn i m) (P >>= fun xs => (up (gd (xs.length ≤ sizeLine) xs) : M (List α))) (fun xs => (i, some (.own (xs.map e))) :: Γ) := fun env A B s B' r => by
  obtain ⟨xs, B1, r1, r2⟩ := rnB r
  obtain ⟨q, rfl⟩ := rnU r2
  obtain ⟨hl, rfl⟩ := gd_some q
  refine ⟨_, ?_, A.set hi _⟩
  unfold mOwn; rw [h env A _ _ _ r1]; simp only [Res.s, unD_map', List.length_map, hl, if_true]
theorem n_ownT {i : Nat} {e : α → PD} {m : EnvM → Bag → Res (List SV)} {ss : List SV} {xs : List α} (h : T n Γ m ss) (hu : unD ss = some (xs.map e)) (hl : xs.length ≤ sizeLine) (hi : i < n) : NJ n Γ (mOwn i m) (pure xs : M (List α)) (fun xs => (i, some (.own (xs.map e))) :: Γ) := fun env A B s B' r => by
  obtain ⟨rfl, rfl⟩ := rnP r
  refine ⟨_, ?_, A.set hi _⟩
  unfold mOwn; rw [h env A _]; simp only [Res.s, hu, List.length_map, hl, if_true]
theorem n_app {i : Nat} {P : M α} {e : α → PD} {xs : List α} (hx : Γ.lookup i = some (some (.own (xs.map e)))) (h : J n Γ me P e) (hi : i < n) : NJ n Γ (mApp i me) (P >>= fun x => (up (gd (xs.length < sizeLine) (xs ++ [x])) : M (List α))) (fun ys => (i, some (.own (ys.map e))) :: Γ) := fun env A B s B' r => by
  obtain ⟨x, B1, r1, r2⟩ := rnB r
  obtain ⟨q, rfl⟩ := rnU r2
  obtain ⟨hl, rfl⟩ := gd_some q
  refine ⟨_, ?_, A.set hi _⟩
  unfold mApp; rw [A.get _ _ hx]; simp only [h env A _ _ _ r1, Res.s, List.length_map, hl, if_true, List.map_append, List.map_cons, List.map_nil]
theorem n_ext {i : Nat} {P : M (List α)} {e : α → PD} {xs : List α} (hx : Γ.lookup i = some (some (.own (xs.map e)))) (h : J n Γ me P (fun ys => .list (ys.map e))) (hi : i < n) : NJ n Γ (mExt i me) (P >>= fun ys => (up (gd (xs.length + ys.length ≤ sizeLine) (xs ++ ys)) : M (List α))) (fun ys => (i, some (.own (ys.map e))) :: Γ) := fun env A B s B' r => by
  obtain ⟨x, B1, r1, r2⟩ := rnB r
  obtain ⟨q, rfl⟩ := rnU r2
  obtain ⟨hl, rfl⟩ := gd_some q
  refine ⟨_, ?_, A.set hi _⟩
  unfold mExt; rw [A.get _ _ hx]; simp only [h env A _ _ _ r1, Res.s, List.length_map, hl, if_true, List.map_append]
/-- the end of an own list: data from here on -/
theorem n_fz {i : Nat} {P : M σ} {xs : List PD} (hx : Γ.lookup i = some (some (.own xs))) (h : NJ n ((i, some (.d (.list xs))) :: Γ) a P Γ1) : NJ n Γ (mFz i a) P Γ1 := fun env A => h _ (A.lendO hx)
theorem r_fz {i : Nat} {P : M ρ} {xs : List PD} (hx : Γ.lookup i = some (some (.own xs))) (h : RJ n ((i, some (.d (.list xs))) :: Γ) a P er) : RJ n Γ (mFz i a) P er := fun env A => h _ (A.lendO hx)
theorem o_fz {i : Nat} {P : M (Out σ β ρ)} {xs : List PD} (hx : Γ.lookup i = some (some (.own xs))) (h : SJ n ((i, some (.d (.list xs))) :: Γ) a P Γ1 Γ2 er) : SJ n Γ (mFz i a) P Γ1 Γ2 er := fun env A => h _ (A.lendO hx)
/-! what a slot takes over -/
theorem t_ml {m : EnvM → Bag → Res (List SV)} {ss : List SV} {ds : List PD} (h : T n Γ m ss) (hu : unD ss = some ds) (hl : ds.length ≤ sizeLine) : T n Γ (mML m) (.own ds) := fun env A B => by
  unfold mML; rw [h env A B]; simp only [Res.bind, hu, hl, if_true]
theorem j_ml {m : EnvM → Bag → Res (List SV)} {P : M α} {sv : α → List SV} {ds : α → List PD} (h : J n Γ m P sv) (hu : ∀ x, unD (sv x) = some (ds x)) (hl : ∀ x, (ds x).length ≤ sizeLine) : J n Γ (mML m) P (fun x => .own (ds x)) := fun env A B x B' r => by
  unfold mML; rw [h env A _ _ _ r]; simp only [Res.bind, hu, hl, if_true]
theorem j_mlist {m : EnvM → Bag → Res (List SV)} {P : M α} {sv : α → List SV} {ds : α → List PD} (h : J n Γ m P sv) (hu : ∀ x, unD (sv x) = some [.list (ds x)] ∨ unD (sv x) = some [.tuple (ds x)]) : J n Γ (mMList m) P (fun x => .own (ds x)) := fun env A B x B' r => by
  unfold mMList; rw [h env A _ _ _ r]; simp only [Res.bind]
  rcases hu x with q | q <;> rw [q]
theorem n_setM {i : Nat} {m : EnvM → Bag → Res SV} {P : M α} {sv : α → SV} (h : J n Γ m P sv) (hi : i < n) : NJ n Γ (mSetM i m) P (fun x => (i, some (sv x)) :: Γ) := fun env A B s B' r => by
  refine ⟨_, ?_, A.set hi _⟩
  unfold mSetM; rw [h env A _ _ _ r]; rfl
theorem n_parM {α₁ α₂ : Type} {i j : Nat} {m m2 : EnvM → Bag → Res SV} {P : M α₁} {Q : M α₂} {sv : α₁ → SV} {sw : α₂ → SV} (h : J n Γ m P sv) (h2 : J n Γ m2 Q sw) (hi : i < n) (hj : j < n) : NJ n Γ (mParM i j m m2) (P >>= fun x => Q >>= fun y => (pure (x, y) : M (α₁ × α₂))) (fun p => (j, some (sw p.2)) :: (i, some (sv p.1)) :: Γ) := fun env A B s B' r => by
  obtain ⟨x, B1, r1, r2⟩ := rnB r
  obtain ⟨y, B2, r3, r4⟩ := rnB r2
  obtain ⟨rfl, rfl⟩ := rnP r4
  refine ⟨_, ?_, (A.set hi _).set hj _⟩
  unfold mParM; rw [h env A _ _ _ r1]; simp only [Res.s, h2 env A _ _ _ r3]
theorem n_parM3 {α₁ α₂ α₃ : Type} {i j k : Nat} {m m2 m3 : EnvM → Bag → Res SV} {P : M α₁} {Q : M α₂} {R : M α₃} {sv : α₁ → SV} {sw : α₂ → SV} {su : α₃ → SV} (h : J n Γ m P sv) (h2 : J n Γ m2 Q sw) (h3 : J n Γ m3 R su) (hi : i < n) (hj : j < n) (hk : k < n) :
    NJ n Γ (mParM3 i j k m m2 m3) (P >>= fun x => Q >>= fun y => R >>= fun z => (pure (x, y, z) : M (α₁ × α₂ × α₃))) (fun p => (k, some (su p.2.2)) :: (j, some (sw p.2.1)) :: (i, some (sv p.1)) :: Γ) := fun env A B s B' r => by
  obtain ⟨x, B1, r1, r2⟩ := rnB r
  obtain ⟨y, B2, r3, r4⟩ := rnB r2
  obtain ⟨z, B3, r5, r6⟩ := rnB r4
  obtain ⟨rfl, rfl⟩ := rnP r6
  refine ⟨_, ?_, ((A.set hi _).set hj _).set hk _⟩
  unfold mParM3; rw [h env A _ _ _ r1]; simp only [Res.s, h2 env A _ _ _ r3, h3 env A _ _ _ r5]
theorem n_parOwn {α₁ α₂ : Type} {i j : Nat} {m : EnvM → Bag → Res (List SV)} {P : M α₁} {Q : M α₂} {sv : α₁ → List SV} {ds : α₁ → List PD} {e : α₂ → PD} (h : J n Γ m P sv) (hu : ∀ x, unD (sv x) = some (ds x)) (hl : ∀ x, (ds x).length ≤ sizeLine) (h2 : J n Γ me Q e) (hi : i < n) (hj : j < n) :
    NJ n Γ (mParOwn i j m me) (P >>= fun x => Q >>= fun y => (pure (x, y) : M (α₁ × α₂))) (fun p => (j, some (.d (e p.2))) :: (i, some (.own (ds p.1))) :: Γ) := fun env A B s B' r => by
  obtain ⟨x, B1, r1, r2⟩ := rnB r
  obtain ⟨y, B2, r3, r4⟩ := rnB r2
  obtain ⟨rfl, rfl⟩ := rnP r4
  refine ⟨_, ?_, (A.set hi _).set hj _⟩
  unfold mParOwn; rw [h env A _ _ _ r1]; simp only [Res.s, hu, hl, if_true, h2 env A _ _ _ r3]
/-! loops -/
def foldM' (F : σ → α → M σ) : List α → σ → M σ
  | [], s => pure s
  | x :: xs, s => F s x >>= fun s' => foldM' F xs s'
def loopB (F : σ → α → M (Out σ σ Empty)) : List α → σ → M σ
  | [], s => pure s
  | x :: xs, s => F s x >>= fun o => match o with
    | .nx s' => loopB F xs s'
    | .ct s' => loopB F xs s'
    | .bk s' => pure s'
def loopR (F : σ → α → M (Out σ σ ρ)) : List α → σ → M (Out σ β ρ)
  | [], s => pure (.nx s)
  | x :: xs, s => F s x >>= fun o => match o with
    | .nx s' => loopR F xs s'
    | .ct s' => loopR F xs s'
    | .bk s' => pure (.nx s')
    | .rt r => pure (.rt r)
variable {mi : EnvM → Bag → Res (List PD)} {g : PD → EnvM → Option EnvM} {body : EnvM → Bag → SRes} {enc : α → PD} {Pi : M (List α)} {fc : α → Ctx → Ctx} {ΓI : σ → Ctx}
theorem n_loop {F : σ → α → M σ} (hg : ∀ x, Tg n g (enc x) (fc x)) (hb : ∀ s x, NJ n (fc x (ΓI s)) body (F s x) ΓI) : ∀ (xs : List α) (s : σ) (env : EnvM), Ag n (ΓI s) env → ∀ B s' B', rn (foldM' F xs s) B = some (s', B') → ∃ env', mLoop g body (xs.map enc) env B = .nx env' B' ∧ Ag n (ΓI s') env'
  | [], s, env, A, B, s', B', r => by
    obtain ⟨rfl, rfl⟩ := rnP r
    exact ⟨env, rfl, A⟩
  | x :: xs, s, env, A, B, s', B', r => by
    unfold foldM' at r
    obtain ⟨t, B1, r1, r2⟩ := rnB r
    obtain ⟨e1, q1, A1⟩ := hg x _ _ A
    obtain ⟨e2, q2, A2⟩ := hb s x e1 A1 _ _ _ r1
    obtain ⟨e3, q3, A3⟩ := n_loop hg hb xs t e2 A2 _ _ _ r2
    refine ⟨e3, ?_, A3⟩
    rw [List.map_cons]
    unfold mLoop
    simp only [q1, q2]
    exact q3
theorem n_for {F : σ → α → M σ} {s0 : σ} (hi : J n Γ mi Pi (List.map enc)) (h0 : Sb (ΓI s0) Γ) (hg : ∀ x, Tg n g (enc x) (fc x)) (hb : ∀ s x, NJ n (fc x (ΓI s)) body (F s x) ΓI) : NJ n Γ (mFor mi g body) (Pi >>= fun xs => foldM' F xs s0) ΓI := fun env A B s B' r => by
  obtain ⟨xs, B1, r1, r2⟩ := rnB r
  obtain ⟨e2, q2, A2⟩ := n_loop hg hb xs s0 env (A.sub h0) _ _ _ r2
  exact ⟨e2, by unfold mFor; rw [hi env A _ _ _ r1]; exact q2, A2⟩
theorem b_loop {F : σ → α → M (Out σ σ Empty)} {er : Empty → PD} (hg : ∀ x, Tg n g (enc x) (fc x)) (hb : ∀ s x, SJ n (fc x (ΓI s)) body (F s x) ΓI ΓI er) : ∀ (xs : List α) (s : σ) (env : EnvM), Ag n (ΓI s) env → ∀ B s' B', rn (loopB F xs s) B = some (s', B') → ∃ env', mLoop g body (xs.map enc) env B = .nx env' B' ∧ Ag n (ΓI s') env'
  | [], s, env, A, B, s', B', r => by
    obtain ⟨rfl, rfl⟩ := rnP r
    exact ⟨env, rfl, A⟩
  | x :: xs, s, env, A, B, s', B', r => by
    unfold loopB at r
    obtain ⟨o, B1, r1, r2⟩ := rnB r
    obtain ⟨e1, q1, A1⟩ := hg x _ _ A
    have q := hb s x e1 A1 _ _ _ r1
    rw [List.map_cons]
    unfold mLoop
    simp only [q1]
    cases o with
    | nx t =>
      obtain ⟨e2, q2, A2⟩ := q
      obtain ⟨e3, q3, A3⟩ := b_loop hg hb xs t e2 A2 _ _ _ r2
      exact ⟨e3, by simp only [q2]; exact q3, A3⟩
    | ct t =>
      obtain ⟨e2, q2, A2⟩ := q
      obtain ⟨e3, q3, A3⟩ := b_loop hg hb xs t e2 A2 _ _ _ r2
      exact ⟨e3, by simp only [q2]; exact q3, A3⟩
    | bk t =>
      obtain ⟨e2, q2, A2⟩ := q
      obtain ⟨rfl, rfl⟩ := rnP r2
      exact ⟨e2, by simp only [q2], A2⟩
    | rt x => exact x.elim
theorem b_for {F : σ → α → M (Out σ σ Empty)} {er : Empty → PD} {s0 : σ} (hi : J n Γ mi Pi (List.map enc)) (h0 : Sb (ΓI s0) Γ) (hg : ∀ x, Tg n g (enc x) (fc x)) (hb : ∀ s x, SJ n (fc x (ΓI s)) body (F s x) ΓI ΓI er) : NJ n Γ (mFor mi g body) (Pi >>= fun xs => loopB F xs s0) ΓI := fun env A B s B' r => by
  obtain ⟨xs, B1, r1, r2⟩ := rnB r
  obtain ⟨e2, q2, A2⟩ := b_loop hg hb xs s0 env (A.sub h0) _ _ _ r2
  exact ⟨e2, by unfold mFor; rw [hi env A _ _ _ r1]; exact q2, A2⟩
theorem o_loop {F : σ → α → M (Out σ σ ρ)} (hg : ∀ x, Tg n g (enc x) (fc x)) (hb : ∀ s x, SJ n (fc x (ΓI s)) body (F s x) ΓI ΓI er) : ∀ (xs : List α) (s : σ) (env : EnvM), Ag n (ΓI s) env → ∀ B (o : Out σ β ρ) B', rn (loopR F xs s : M (Out σ β ρ)) B = some (o, B') → OutOk n ΓI Γ2 er (mLoop g body (xs.map enc) env B) B' o
  | [], s, env, A, B, s', B', r => by
    obtain ⟨rfl, rfl⟩ := rnP r
    exact ⟨env, rfl, A⟩
  | x :: xs, s, env, A, B, s', B', r => by
    unfold loopR at r
    obtain ⟨o, B1, r1, r2⟩ := rnB r
    obtain ⟨e1, q1, A1⟩ := hg x _ _ A
    have q := hb s x e1 A1 _ _ _ r1
    rw [List.map_cons]
    unfold mLoop
    simp only [q1]
    cases o with
    | nx t =>
      obtain ⟨e2, q2, A2⟩ := q
      simp only [q2]
      exact o_loop hg hb xs t e2 A2 _ _ _ r2
    | ct t =>
      obtain ⟨e2, q2, A2⟩ := q
      simp only [q2]
      exact o_loop hg hb xs t e2 A2 _ _ _ r2
    | bk t =>
      obtain ⟨e2, q2, A2⟩ := q
      obtain ⟨rfl, rfl⟩ := rnP r2
      exact ⟨e2, by simp only [q2], A2⟩
    | rt x =>
      have q : body e1 B = .ret (er x) B1 := q
      obtain ⟨rfl, rfl⟩ := rnP r2
      show (match body e1 B with | .nx env2 B2 => _ | .ct env2 B2 => _ | .bk env2 B2 => _ | .ret d B2 => _ | .exc c as e2 B2 => _ | .bad => _) = _
      rw [q]
theorem o_for {F : σ → α → M (Out σ σ ρ)} {s0 : σ} (hi : J n Γ mi Pi (List.map enc)) (h0 : Sb (ΓI s0) Γ) (hg : ∀ x, Tg n g (enc x) (fc x)) (hb : ∀ s x, SJ n (fc x (ΓI s)) body (F s x) ΓI ΓI er) : SJ n Γ (mFor mi g body) (Pi >>= fun xs => (loopR F xs s0 : M (Out σ β ρ))) ΓI Γ2 er := fun env A B s B' r => by
  obtain ⟨xs, B1, r1, r2⟩ := rnB r
  have q := o_loop (Γ2 := Γ2) hg hb xs s0 env (A.sub h0) _ _ _ r2
  have e : mFor mi g body env B = mLoop g body (xs.map enc) env B1 := by unfold mFor; rw [hi env A _ _ _ r1]; rfl
  rw [e]; exact q
/-! while -/
def whF (c : σ → M Bool) (F : σ → M σ) : Nat → σ → M σ
  | 0, _ => up none
  | k + 1, s => c s >>= fun b => if b = true then F s >>= fun s' => whF c F k s' else pure s
def whileM (c : σ → M Bool) (F : σ → M σ) (s : σ) : M σ := Rn.lim fun k => whF c F k s
theorem whF_more (c : σ → M Bool) (F : σ → M σ) : ∀ (k : Nat) (s : σ) (B : Bag) (r : σ × Bag), rn (whF c F k s) B = some r → rn (whF c F (k + 1) s) B = some r
  | 0, s, B, r, h => by
    have : rn (up none : M σ) B = some r := h
    rw [Rn.rn_up] at this; cases this
  | k + 1, s, B, r, h => by
    unfold whF at h ⊢
    obtain ⟨b, B1, r1, r2⟩ := rnB (b := r.1) (B' := r.2) h
    rw [Rn.rn_bind, r1]
    simp only [Option.bind_some]
    cases b with
    | false => exact r2
    | true =>
      rw [if_pos rfl] at r2 ⊢
      obtain ⟨s', B2, r3, r4⟩ := rnB r2
      rw [Rn.rn_bind, r3]
      exact whF_more c F k s' B2 _ r4
theorem while_ex {c : σ → M Bool} {F : σ → M σ} {s : σ} {B : Bag} {r : σ × Bag} (h : rn (whileM c F s) B = some r) : ∃ k, rn (whF c F k s) B = some r := Rn.lim_ex _ _ _ h
theorem while_of {c : σ → M Bool} {F : σ → M σ} {s : σ} {B : Bag} {r : σ × Bag} (k : Nat) (h : rn (whF c F k s) B = some r) : rn (whileM c F s) B = some r := Rn.lim_of _ _ _ k (fun k r h => whF_more c F k s B r h) h
theorem while_end {c : σ → M Bool} {F : σ → M σ} {s : σ} {B B' : Bag} (h : rn (c s) B = some (false, B')) : rn (whileM c F s) B = some (s, B') := while_of 1 (by
  unfold whF
  rw [Rn.rn_bind, h]
  simp only [Option.bind_some]
  rw [if_neg Bool.false_ne_true, Rn.rn_pure])
theorem while_turn {c : σ → M Bool} {F : σ → M σ} {s s' : σ} {B B1 B2 : Bag} {r : σ × Bag} (h : rn (c s) B = some (true, B1)) (h2 : rn (F s) B1 = some (s', B2)) (h3 : rn (whileM c F s') B2 = some r) : rn (whileM c F s) B = some r := by
  obtain ⟨k, h4⟩ := while_ex h3
  refine while_of (k + 1) ?_
  unfold whF
  rw [Rn.rn_bind, h]
  simp only [Option.bind_some, if_true]
  rw [Rn.rn_bind, h2]
  exact h4
theorem n_while {c : σ → M Bool} {F : σ → M σ} {s0 : σ} (h0 : Sb (ΓI s0) Γ) (hc : ∀ s, J n (ΓI s) mc (c s) id) (hb : ∀ s, NJ n (ΓI s) body (F s) ΓI) : NJ n Γ (mWhile mc body) (whileM c F s0) ΓI := fun env A B s B' r => by
  obtain ⟨k, h⟩ := while_ex r
  have go : ∀ (k : Nat) (s0 : σ) (env : EnvM) (B : Bag), Ag n (ΓI s0) env → rn (whF c F k s0) B = some (s, B') → ∃ env', mWhile mc body env B = .nx env' B' ∧ Ag n (ΓI s) env' := by
    intro k
    induction k with
    | zero => intro s0 env B A h; have : rn (up none : M σ) B = some (s, B') := h; rw [Rn.rn_up] at this; cases this
    | succ k ih =>
      intro s0 env B A h
      unfold whF at h
      obtain ⟨b, B1, r1, r2⟩ := rnB h
      have q := hc s0 env A _ _ _ r1
      cases b with
      | false => obtain ⟨rfl, rfl⟩ := rnP r2; exact ⟨env, mWhile_end q, A⟩
      | true =>
        rw [if_pos rfl] at r2
        obtain ⟨s', B2, r3, r4⟩ := rnB r2
        obtain ⟨e2, q2, A2⟩ := hb s0 env A _ _ _ r3
        obtain ⟨e3, q3, A3⟩ := ih s' e2 B2 A2 r4
        exact ⟨e3, (mWhile_turn q q2 (by rw [q3]; intro z; cases z)).trans q3, A3⟩
  exact go k s0 env B (A.sub h0) h
/-! defs -/
theorem fn_ok {ss : List SV} {P : M ρ} (h : RJ n (ctx0 0 ss) b P er) (hl : ss.length ≤ n) : FJ (mFn n b) ss P er := fun B r B' q => by
  exact s_fn (h _ (Ag.start ss hl) _ _ _ q)
theorem law_ok {ib : Nat} {P : M ρ} {B B' : Bag} {r : ρ} (h : RJ n [(ib, some .bag)] b P er) (hb : ib < n) (q : rn P B = some (r, B')) : b (envL n ib) B = .ret (er r) B' := h _ (Ag.law hb) _ _ _ q
end
end TL
set_option Elab.async false
set_option linter.all false
set_option maxRecDepth 100000
set_option maxHeartbeats 4000000
/-! TL3: the kinds of values, and what the operations do on them. -/
namespace TL
open PySem L2 DL
open Rn (rn up)
/-! ### kinds -/
abbrev eInt : Int → PD := PyData.int
abbrev eBool : Bool → PD := PyData.bool
def S : Type := {x : Str // PyData.canLay0 (.str x) = true}
instance : DecidableEq S := inferInstanceAs (DecidableEq {x : Str // PyData.canLay0 (.str x) = true})
abbrev eS : S → PD := fun x => .str x.1
abbrev eU : Unit → PD := fun _ => .none
abbrev eO {α : Type} (e : α → PD) : Option α → PD := fun o => match o with
  | none => .none
  | some a => e a
abbrev eL {α : Type} (e : α → PD) : List α → PD := fun xs => .list (xs.map e)
abbrev eT {α : Type} (e : α → PD) : List α → PD := fun xs => .tuple (xs.map e)
section
variable {α₁ α₂ α₃ α₄ α₅ α₆ : Type} (e₁ : α₁ → PD) (e₂ : α₂ → PD) (e₃ : α₃ → PD) (e₄ : α₄ → PD) (e₅ : α₅ → PD) (e₆ : α₆ → PD)
abbrev eP1 : α₁ → PD := fun p => .tuple [e₁ p]
abbrev eP2 : α₁ × α₂ → PD := fun p => .tuple [e₁ p.1, e₂ p.2]
abbrev eP3 : α₁ × α₂ × α₃ → PD := fun p => .tuple [e₁ p.1, e₂ p.2.1, e₃ p.2.2]
abbrev eP4 : α₁ × α₂ × α₃ × α₄ → PD := fun p => .tuple [e₁ p.1, e₂ p.2.1, e₃ p.2.2.1, e₄ p.2.2.2]
abbrev eP5 : α₁ × α₂ × α₃ × α₄ × α₅ → PD := fun p => .tuple [e₁ p.1, e₂ p.2.1, e₃ p.2.2.1, e₄ p.2.2.2.1, e₅ p.2.2.2.2]
abbrev eQ1 : α₁ → PD := fun p => .list [e₁ p]
abbrev eQ2 : α₁ × α₂ → PD := fun p => .list [e₁ p.1, e₂ p.2]
abbrev eQ3 : α₁ × α₂ × α₃ → PD := fun p => .list [e₁ p.1, e₂ p.2.1, e₃ p.2.2]
abbrev eQ4 : α₁ × α₂ × α₃ × α₄ → PD := fun p => .list [e₁ p.1, e₂ p.2.1, e₃ p.2.2.1, e₄ p.2.2.2]
abbrev eQ5 : α₁ × α₂ × α₃ × α₄ × α₅ → PD := fun p => .list [e₁ p.1, e₂ p.2.1, e₃ p.2.2.1, e₄ p.2.2.2.1, e₅ p.2.2.2.2]
abbrev eQ6 : α₁ × α₂ × α₃ × α₄ × α₅ × α₆ → PD := fun p => .list [e₁ p.1, e₂ p.2.1, e₃ p.2.2.1, e₄ p.2.2.2.1, e₅ p.2.2.2.2.1, e₆ p.2.2.2.2.2]
end
/-- equality of the values is that of what they show -/
structure Eqd {α : Type} (k : Nat) (e : α → PD) : Prop where
  lay : ∀ a, (e a).canLay0 = true
  dep : ∀ a, (e a).depth ≤ k
  inj : ∀ a b, PyData.eqv (e a) (e b) = true ↔ a = b
theorem eqd_int : Eqd 0 eInt := ⟨fun _ => rfl, fun _ => by simp [PyData.depth], fun a b => by simp [PyData.eqv]⟩
theorem eqd_bool : Eqd 0 eBool := ⟨fun _ => rfl, fun _ => by simp [PyData.depth], fun a b => by simp [PyData.eqv]⟩
theorem eqd_U : Eqd 0 eU := ⟨fun _ => rfl, fun _ => by simp [PyData.depth], fun a b => by simp [PyData.eqv]⟩
theorem eqd_S : Eqd 0 eS := ⟨fun a => a.2, fun _ => by simp [PyData.depth], fun a b => by simp [PyData.eqv]; exact ⟨Subtype.ext, fun h => by rw [h]⟩⟩
section
variable {α β γ δ : Type} {e : α → PD} {k : Nat}
theorem lays (h : Eqd k e) : ∀ xs : List α, PyData.canLayAll0 (xs.map e) = true
  | [] => rfl
  | x :: r => by rw [List.map_cons]; unfold PyData.canLayAll0; rw [h.lay x, lays h r]; rfl
theorem deps (h : Eqd k e) : ∀ xs : List α, PyData.depthAll (xs.map e) ≤ k
  | [] => by simp [PyData.depthAll]
  | x :: r => by
    have := h.dep x; have := deps h r
    rw [List.map_cons]; unfold PyData.depthAll; omega
theorem injs (h : Eqd k e) : ∀ xs ys : List α, PyData.eqvAll (xs.map e) (ys.map e) = true ↔ xs = ys
  | [], [] => by simp [PyData.eqvAll]
  | [], _ :: _ => by simp [PyData.eqvAll]
  | _ :: _, [] => by simp [PyData.eqvAll]
  | x :: xs, y :: ys => by simp only [List.map_cons, PyData.eqvAll, Bool.and_eq_true, h.inj, injs h xs ys, List.cons.injEq]
theorem eqd_L (h : Eqd k e) : Eqd (k + 1) (eL e) := ⟨fun xs => by unfold PyData.canLay0; exact lays h xs, fun xs => by unfold PyData.depth; have := deps h xs; omega, fun xs ys => by simp only [PyData.eqv]; exact injs h xs ys⟩
theorem eqd_T (h : Eqd k e) : Eqd (k + 1) (eT e) := ⟨fun xs => by unfold PyData.canLay0; exact lays h xs, fun xs => by unfold PyData.depth; have := deps h xs; omega, fun xs ys => by simp only [PyData.eqv]; exact injs h xs ys⟩
theorem eqv_none_l (d : PD) (h : d ≠ .none) : PyData.eqv .none d = false := by cases d <;> first | exact absurd rfl h | rfl
theorem eqv_none_r (d : PD) (h : d ≠ .none) : PyData.eqv d .none = false := by cases d <;> first | exact absurd rfl h | rfl
theorem eqd_O (h : Eqd k e) (hn : ∀ a, e a ≠ .none) : Eqd k (eO e) := ⟨fun o => by cases o <;> first | rfl | exact h.lay _, fun o => by cases o <;> first | exact h.dep _ | simp [PyData.depth], fun a b => by
  cases a with
  | none => cases b with
    | none => simp [PyData.eqv]
    | some b => simp only [eqv_none_l _ (hn b)]; simp
  | some a => cases b with
    | none => simp only [eqv_none_r _ (hn a)]; simp
    | some b => simp only [h.inj, Option.some.injEq]⟩
theorem Eqd.up {k' : Nat} (h : Eqd k e) (hk : k ≤ k') : Eqd k' e := ⟨h.lay, fun a => Nat.le_trans (h.dep a) hk, h.inj⟩
variable {f : β → PD} {g : γ → PD} {i : δ → PD}
theorem eqd_P1 (h : Eqd k e) : Eqd (k + 1) (eP1 e) := ⟨fun p => by simp [PyData.canLay0, PyData.canLayAll0, h.lay], fun p => by have := h.dep p; simp only [PyData.depth, PyData.depthAll]; omega, fun p q => by simp [PyData.eqv, PyData.eqvAll, h.inj]⟩
theorem eqd_P2 (h : Eqd k e) (h2 : Eqd k f) : Eqd (k + 1) (eP2 e f) := ⟨fun p => by simp [PyData.canLay0, PyData.canLayAll0, h.lay, h2.lay], fun p => by have := h.dep p.1; have := h2.dep p.2; simp only [PyData.depth, PyData.depthAll]; omega, fun p q => by simp [PyData.eqv, PyData.eqvAll, h.inj, h2.inj, Prod.ext_iff]⟩
theorem eqd_P3 (h : Eqd k e) (h2 : Eqd k f) (h3 : Eqd k g) : Eqd (k + 1) (eP3 e f g) := ⟨fun p => by simp [PyData.canLay0, PyData.canLayAll0, h.lay, h2.lay, h3.lay], fun p => by have := h.dep p.1; have := h2.dep p.2.1; have := h3.dep p.2.2; simp only [PyData.depth, PyData.depthAll]; omega, fun p q => by simp [PyData.eqv, PyData.eqvAll, h.inj, h2.inj, h3.inj, Prod.ext_iff]⟩
theorem eqd_P4 (h : Eqd k e) (h2 : Eqd k f) (h3 : Eqd k g) (h4 : Eqd k i) : Eqd (k + 1) (eP4 e f g i) := ⟨fun p => by simp [PyData.canLay0, PyData.canLayAll0, h.lay, h2.lay, h3.lay, h4.lay], fun p => by have := h.dep p.1; have := h2.dep p.2.1; have := h3.dep p.2.2.1; have := h4.dep p.2.2.2; simp only [PyData.depth, PyData.depthAll]; omega, fun p q => by simp [PyData.eqv, PyData.eqvAll, h.inj, h2.inj, h3.inj, h4.inj, Prod.ext_iff]⟩
theorem eqd_Q1 (h : Eqd k e) : Eqd (k + 1) (eQ1 e) := ⟨fun p => by simp [PyData.canLay0, PyData.canLayAll0, h.lay], fun p => by have := h.dep p; simp only [PyData.depth, PyData.depthAll]; omega, fun p q => by simp [PyData.eqv, PyData.eqvAll, h.inj]⟩
theorem eqd_Q2 (h : Eqd k e) (h2 : Eqd k f) : Eqd (k + 1) (eQ2 e f) := ⟨fun p => by simp [PyData.canLay0, PyData.canLayAll0, h.lay, h2.lay], fun p => by have := h.dep p.1; have := h2.dep p.2; simp only [PyData.depth, PyData.depthAll]; omega, fun p q => by simp [PyData.eqv, PyData.eqvAll, h.inj, h2.inj, Prod.ext_iff]⟩
theorem eqd_Q3 (h : Eqd k e) (h2 : Eqd k f) (h3 : Eqd k g) : Eqd (k + 1) (eQ3 e f g) := ⟨fun p => by simp [PyData.canLay0, PyData.canLayAll0, h.lay, h2.lay, h3.lay], fun p => by have := h.dep p.1; have := h2.dep p.2.1; have := h3.dep p.2.2; simp only [PyData.depth, PyData.depthAll]; omega, fun p q => by simp [PyData.eqv, PyData.eqvAll, h.inj, h2.inj, h3.inj, Prod.ext_iff]⟩
theorem eqd_Q4 (h : Eqd k e) (h2 : Eqd k f) (h3 : Eqd k g) (h4 : Eqd k i) : Eqd (k + 1) (eQ4 e f g i) := ⟨fun p => by simp [PyData.canLay0, PyData.canLayAll0, h.lay, h2.lay, h3.lay, h4.lay], fun p => by have := h.dep p.1; have := h2.dep p.2.1; have := h3.dep p.2.2.1; have := h4.dep p.2.2.2; simp only [PyData.depth, PyData.depthAll]; omega, fun p q => by simp [PyData.eqv, PyData.eqvAll, h.inj, h2.inj, h3.inj, h4.inj, Prod.ext_iff]⟩
/-! equality, in, index -/
variable [DecidableEq α]
theorem Eqd.shaped (h : Eqd k e) (a : α) (hk : k ≤ 64 := by decide) : SeqAt.shaped (e a) = true := by
  show ((e a).canLay0 && decide ((e a).depth ≤ 64)) = true
  rw [h.lay]
  have := h.dep a
  simp; omega
theorem Eqd.eqv (h : Eqd k e) (a b : α) : PyData.eqv (e a) (e b) = decide (a = b) := by
  have := h.inj a b
  cases q : PyData.eqv (e a) (e b) with
  | true => rw [decide_eq_true (this.mp q)]
  | false => rw [decide_eq_false fun z => by rw [this.mpr z] at q; cases q]
theorem eq_d (h : Eqd k e) (a b : α) (hk : k ≤ 64 := by decide) : eqP (e a) (e b) = some (decide (a = b)) := by
  unfold eqP
  rw [if_pos ⟨h.shaped a hk, h.shaped b hk⟩, h.eqv]
theorem ne_d (h : Eqd k e) (a b : α) (hk : k ≤ 64 := by decide) : neP (e a) (e b) = some (!decide (a = b)) := by
  unfold neP
  rw [if_pos ⟨h.shaped a hk, h.shaped b hk⟩, h.eqv]
theorem any_d (h : Eqd k e) (a : α) : ∀ xs : List α, ((xs.map e).any fun z => PyData.eqv z (e a)) = decide (a ∈ xs)
  | [] => by simp
  | x :: r => by
    rw [List.map_cons, List.any_cons, any_d h a r, h.eqv]
    by_cases c : x = a
    · subst c; simp
    · have c' : ¬ a = x := fun z => c z.symm
      simp [c, c']
theorem in_L (h : Eqd k e) (a : α) (xs : List α) (hk : k + 1 ≤ 64 := by decide) : inAP (e a) (eL e xs) = some (decide (a ∈ xs)) := by
  have q := any_d h a xs
  have e1 : inDP (e a) (.list (xs.map e)) = some (decide (a ∈ xs)) := by
    show (if _ then _ else _) = _
    rw [if_pos ⟨h.shaped a (by omega), (eqd_L h).shaped xs (by omega)⟩, q]
  unfold inAP gOr
  have e2 : inP (e a) (.list (xs.map e)) = if flatP (e a) = true ∧ (xs.map e).all flatP = true then some ((xs.map e).any fun z => PyData.eqv z (e a)) else none := by cases (e a) <;> rfl
  rw [e2]
  by_cases c : flatP (e a) = true ∧ (xs.map e).all flatP = true
  · rw [if_pos c, q]
  · rw [if_neg c]; exact e1
theorem in_T (h : Eqd k e) (a : α) (xs : List α) (hk : k + 1 ≤ 64 := by decide) : inAP (e a) (eT e xs) = some (decide (a ∈ xs)) := by
  have q := any_d h a xs
  have e1 : inDP (e a) (.tuple (xs.map e)) = some (decide (a ∈ xs)) := by
    show (if _ then _ else _) = _
    rw [if_pos ⟨h.shaped a (by omega), (eqd_T h).shaped xs (by omega)⟩, q]
  unfold inAP gOr
  have e2 : inP (e a) (.tuple (xs.map e)) = if flatP (e a) = true ∧ (xs.map e).all flatP = true then some ((xs.map e).any fun z => PyData.eqv z (e a)) else none := by cases (e a) <;> rfl
  rw [e2]
  by_cases c : flatP (e a) = true ∧ (xs.map e).all flatP = true
  · rw [if_pos c, q]
  · rw [if_neg c]; exact e1
theorem nin_of {d x : PD} {b : Bool} (h : inAP d x = some b) : ninAP d x = some (!b) := by
  unfold inAP gOr at h
  unfold ninAP gOr ninP ninDP
  cases q : inP d x with
  | some k => rw [q] at h; cases h; rfl
  | none =>
    rw [q] at h
    have h : inDP d x = some b := h
    show (match (none : Option Bool) with | some z => some z | none => (inDP d x).map (!·)) = _
    rw [h]; rfl
theorem nin_L (h : Eqd k e) (a : α) (xs : List α) (hk : k + 1 ≤ 64 := by decide) : ninAP (e a) (eL e xs) = some (!decide (a ∈ xs)) := nin_of (in_L h a xs hk)
theorem nin_T (h : Eqd k e) (a : α) (xs : List α) (hk : k + 1 ≤ 64 := by decide) : ninAP (e a) (eT e xs) = some (!decide (a ∈ xs)) := nin_of (in_T h a xs hk)
theorem idx_d (h : Eqd k e) (a : α) : ∀ xs : List α, a ∈ xs → DL.idxOf (e a) (xs.map e) = some (xs.idxOf a)
  | [], z => by cases z
  | x :: r, z => by
    rw [List.map_cons]
    unfold DL.idxOf
    rw [List.idxOf_cons, h.eqv]
    by_cases c : x = a
    · subst c; simp
    · have hx : a ∈ r := by
        rcases List.mem_cons.mp z with rfl | z
        · exact absurd rfl c
        · exact z
      rw [idx_d h a r hx]
      have c2 : (x == a) = false := by simp [c]
      rw [c2]
      simp [c]
def indexG (xs : List α) (a : α) : Option Int := gd (a ∈ xs) (xs.idxOf a : Nat)
theorem index_L (h : Eqd k e) (xs : List α) (a : α) (c : Int) (hc : indexG xs a = some c) (hk : k + 1 ≤ 64 := by decide) : indexP (eL e xs) (e a) = some (.int c) := by
  obtain ⟨z, rfl⟩ := gd_some hc
  show (if _ then _ else _) = _
  rw [if_pos ⟨(eqd_L h).shaped xs hk, h.shaped a (by omega)⟩, idx_d h a xs z]; rfl
theorem index_T (h : Eqd k e) (xs : List α) (a : α) (c : Int) (hc : indexG xs a = some c) (hk : k + 1 ≤ 64 := by decide) : indexP (eT e xs) (e a) = some (.int c) := by
  obtain ⟨z, rfl⟩ := gd_some hc
  show (if _ then _ else _) = _
  rw [if_pos ⟨(eqd_T h).shaped xs hk, h.shaped a (by omega)⟩, idx_d h a xs z]; rfl
end
/-! ### operations -/
section
variable {α : Type} {e : α → PD}
theorem add_int (a b : Int) : addP (eInt a) (eInt b) = some (eInt (a + b)) := rfl
theorem sub_int (a b : Int) : subP (eInt a) (eInt b) = some (eInt (a - b)) := rfl
def appG (xs ys : List α) : Option (List α) := gd (xs.length + ys.length ≤ sizeLine) (xs ++ ys)
theorem appG_of {xs ys : List α} (h : xs.length + ys.length ≤ sizeLine) : appG xs ys = some (xs ++ ys) := gd_of h
theorem add_L (e : α → PD) (xs ys c : List α) (h : appG xs ys = some c) : addP (eL e xs) (eL e ys) = some (eL e c) := by
  obtain ⟨z, rfl⟩ := gd_some h
  show (if _ then _ else _) = _
  rw [if_pos (by rw [List.length_map, List.length_map]; exact z), ← List.map_append]
theorem add_T (e : α → PD) (xs ys c : List α) (h : appG xs ys = some c) : addP (eT e xs) (eT e ys) = some (eT e c) := by
  obtain ⟨z, rfl⟩ := gd_some h
  show (if _ then _ else _) = _
  rw [if_pos (by rw [List.length_map, List.length_map]; exact z), ← List.map_append]
def mulG (a b : Int) : Option Int := gd ((-(2 ^ 64) < a ∧ a < 2 ^ 64) ∨ (-(2 ^ 64) < b ∧ b < 2 ^ 64)) (a * b)
theorem mulG_of {a b : Int} (h : (-(2 ^ 64) < a ∧ a < 2 ^ 64) ∨ (-(2 ^ 64) < b ∧ b < 2 ^ 64)) : mulG a b = some (a * b) := gd_of h
theorem mul_int (a b c : Int) (h : mulG a b = some c) : mulAP (eInt a) (eInt b) = some (eInt c) := by
  obtain ⟨z, rfl⟩ := gd_some h
  unfold mulAP gOr
  have : mulP (eInt a) (eInt b) = some (eInt (a * b)) := by
    show (if _ then _ else _) = _
    rw [if_pos z]
  rw [this]
def repG (xs : List α) (k : Int) : Option (List α) := gd (-(2 ^ 63) ≤ k ∧ k < 2 ^ 63 ∧ xs.length * k.toNat ≤ sizeLine) (List.replicate k.toNat xs).flatten
theorem rep_L (e : α → PD) (xs : List α) (k : Int) (c : List α) (h : repG xs k = some c) : mulAP (eL e xs) (eInt k) = some (eL e c) := by
  obtain ⟨z, rfl⟩ := gd_some h
  unfold mulAP gOr
  have : mulP (eL e xs) (eInt k) = some (eL e (List.replicate k.toNat xs).flatten) := by
    show (if _ then _ else _) = _
    rw [if_pos (by rw [List.length_map]; exact z)]
    simp [List.map_flatten]
  rw [this]
def modG (a b : Int) : Option Int := gd (b ≠ 0) (a.fmod b)
theorem mod_int (a b c : Int) (h : modG a b = some c) : modP (eInt a) (eInt b) = some (eInt c) := by
  obtain ⟨z, rfl⟩ := gd_some h
  show (if _ then _ else _) = _
  rw [if_pos z]
def fdivG (a b : Int) : Option Int := gd (b ≠ 0 ∧ b.natAbs < 1073741824) (a.fdiv b)
theorem fdiv_int (a b c : Int) (h : fdivG a b = some c) : fdivP (eInt a) (eInt b) = some (eInt c) := by
  obtain ⟨z, rfl⟩ := gd_some h
  show (if _ then _ else _) = _
  rw [if_pos z]
def powG (a b : Int) : Option Int := gd (0 ≤ b ∧ b ≤ 1000000 ∧ a.natAbs < 2 ^ 64) (a ^ b.toNat)
theorem pow_int (a b c : Int) (h : powG a b = some c) : powP (eInt a) (eInt b) = some (eInt c) := by
  obtain ⟨z, rfl⟩ := gd_some h
  show (if _ then _ else _) = _
  rw [if_pos z]
theorem ix_L (e : α → PD) (xs : List α) (k : Int) (c : α) (h : atI xs k = some c) : ixP (eL e xs) (eInt k) = some (e c) := atI_map h
theorem ix_T (e : α → PD) (xs : List α) (k : Int) (c : α) (h : atI xs k = some c) : ixP (eT e xs) (eInt k) = some (e c) := atI_map h
theorem cut_map (xs : List α) (lo hi : Option Int) : cutP (xs.map e) lo hi = (cutP xs lo hi).map e := by
  unfold cutP
  rw [List.length_map, List.map_take, List.map_drop]
theorem sl_L (e : α → PD) (xs : List α) (lo hi : Option Int) : sliceP (eL e xs) lo hi = some (eL e (cutP xs lo hi)) := by
  show some (PyData.list (cutP (xs.map e) lo hi)) = _
  rw [cut_map]
theorem sl_T (e : α → PD) (xs : List α) (lo hi : Option Int) : sliceP (eT e xs) lo hi = some (eT e (cutP xs lo hi)) := by
  show some (PyData.tuple (cutP (xs.map e) lo hi)) = _
  rw [cut_map]
theorem len_L (e : α → PD) (xs : List α) : (unD [.d (eL e xs)]).bind lenP = some (eInt (xs.length : Int)) := by
  show some (PyData.int ((xs.map e).length : Int)) = _
  rw [List.length_map]
theorem len_T (e : α → PD) (xs : List α) : (unD [.d (eT e xs)]).bind lenP = some (eInt (xs.length : Int)) := by
  show some (PyData.int ((xs.map e).length : Int)) = _
  rw [List.length_map]
theorem tup_L (e : α → PD) (xs : List α) : (unD [.d (eL e xs)]).bind tupleP = some (eT e xs) := rfl
theorem tup_T (e : α → PD) (xs : List α) : (unD [.d (eT e xs)]).bind tupleP = some (eT e xs) := rfl
theorem lst_L (e : α → PD) (xs : List α) : (unD [.d (eL e xs)]).bind listP = some (eL e xs) := rfl
theorem lst_T (e : α → PD) (xs : List α) : (unD [.d (eT e xs)]).bind listP = some (eL e xs) := rfl
theorem int_int (a : Int) : (unD [.d (eInt a)]).bind intP = some (eInt a) := rfl
theorem int_bool (b : Bool) : (unD [.d (eBool b)]).bind intP = some (eInt (if b = true then 1 else 0)) := by cases b <;> rfl
theorem abs_int (a : Int) : (unD [.d (eInt a)]).bind absP = some (eInt (if a < 0 then -a else a)) := rfl
theorem unI_map : ∀ xs : List Int, DL.unI (xs.map eInt) = some xs
  | [] => rfl
  | x :: r => by rw [List.map_cons]; unfold DL.unI; rw [unI_map r]; rfl
theorem unBo_map : ∀ xs : List Bool, unBo (xs.map eBool) = some xs
  | [] => rfl
  | x :: r => by rw [List.map_cons]; unfold unBo; rw [unBo_map r]; rfl
theorem sum_L (xs : List Int) : (unD [.d (eL eInt xs)]).bind sumP = some (eInt xs.sum) := by
  show (DL.unI (xs.map eInt)).bind _ = _
  rw [unI_map]; rfl
theorem all_L (xs : List Bool) : (unD [.d (eL eBool xs)]).bind allP = some (eBool (xs.all id)) := by
  show (unBo (xs.map eBool)).bind _ = _
  rw [unBo_map]; rfl
theorem any_L (xs : List Bool) : (unD [.d (eL eBool xs)]).bind anyP = some (eBool (xs.any id)) := by
  show (unBo (xs.map eBool)).bind _ = _
  rw [unBo_map]; rfl
theorem sort_ints (xs : List Int) : (unD [.d (eL eInt xs)]).bind sortedAP = some (eL eInt (sortI xs)) := by
  have : sortedP [eL eInt xs] = some (eL eInt (sortI xs)) := by
    show (DL.unI (xs.map eInt)).bind _ = _
    rw [unI_map]; rfl
  show sortedAP [eL eInt xs] = _
  unfold sortedAP
  rw [this]
theorem lt_int (a b : Int) : ltP (eInt a) (eInt b) = some (decide (a < b)) := rfl
theorem le_int (a b : Int) : leP (eInt a) (eInt b) = some (decide (a ≤ b)) := rfl
theorem gt_int (a b : Int) : gtP (eInt a) (eInt b) = some (decide (b < a)) := rfl
theorem ge_int (a b : Int) : geP (eInt a) (eInt b) = some (decide (b ≤ a)) := rfl
theorem isn_O (h : ∀ a, e a ≠ .none) (o : Option α) : isNoneP (eO e o) .none = some o.isNone := by
  cases o with
  | none => rfl
  | some a =>
    show some (isNo (e a)) = _
    have := h a
    cases q : e a <;> first | exact absurd q this | rfl
theorem nn_O (h : ∀ a, e a ≠ .none) (o : Option α) : notNoneP (eO e o) .none = some o.isSome := by
  unfold notNoneP
  rw [isn_O h]
  cases o <;> rfl
theorem is_bool (a b : Bool) : isBP (eBool a) (eBool b) = some (decide (a = b)) := rfl
theorem isn_bool (a b : Bool) : isnBP (eBool a) (eBool b) = some (!decide (a = b)) := rfl
end
/-! ### reckoning with Option -/
theorem up_O {α : Type} (x : Option α) : (up x : Option α) = x := rfl
section
variable {α β σ : Type}
theorem bind_of {x : Option α} {a : α} {f : α → Option β} (h : x = some a) : (x >>= f) = f a := by subst h; rfl
theorem pure_O (a : α) : (pure a : Option α) = some a := rfl
theorem foldM_of {F : σ → α → Option σ} (f : σ → α → σ) (I : σ → Prop) : ∀ (xs : List α) (s : σ), (∀ s, ∀ x ∈ xs, I s → F s x = some (f s x) ∧ I (f s x)) → I s → foldM' F xs s = some (xs.foldl f s) ∧ I (xs.foldl f s)
  | [], s, _, i => ⟨rfl, i⟩
  | x :: xs, s, h, i => by
    obtain ⟨h1, i1⟩ := h s x List.mem_cons_self i
    have := foldM_of f I xs (f s x) (fun s y hy => h s y (List.mem_cons_of_mem _ hy)) i1
    unfold foldM'
    rw [bind_of h1]
    exact this
theorem lcY_of {F : α → Option β} (f : α → β) : ∀ xs : List α, (∀ x ∈ xs, F x = some (f x)) → lcY F xs = some (xs.map f)
  | [], _ => rfl
  | x :: xs, h => by
    unfold lcY
    rw [bind_of (h x List.mem_cons_self), bind_of (lcY_of f xs fun y hy => h y (List.mem_cons_of_mem _ hy))]
    rfl
theorem lcM_of {C : α → Option Bool} {F : α → Option β} (c : α → Bool) (f : α → β) : ∀ xs : List α, (∀ x ∈ xs, C x = some (c x)) → (∀ x ∈ xs, c x = true → F x = some (f x)) → lcM C F xs = some ((xs.filter c).map f)
  | [], _, _ => rfl
  | x :: xs, h, h2 => by
    have ih := lcM_of c f xs (fun y hy => h y (List.mem_cons_of_mem _ hy)) (fun y hy => h2 y (List.mem_cons_of_mem _ hy))
    unfold lcM
    rw [bind_of (h x List.mem_cons_self), List.filter_cons]
    cases q : c x with
    | true =>
      rw [if_pos rfl, if_pos rfl, bind_of (h2 x List.mem_cons_self q), bind_of ih]; rfl
    | false => rw [if_neg Bool.false_ne_true, if_neg Bool.false_ne_true, ih]
end
/-! ### reckoning with draws: d comes to an end, what comes of it is p, and J holds of the bag from here on -/
abbrev JB (B : Bag) : Prop := B.cells.length ≤ 63
def Tot {α : Type} (d : D α) (p : α → Prop) : Prop := ∀ B, JB B → ∃ a B', d B = some (a, B') ∧ JB B' ∧ p a
section
variable {α β σ ρ : Type}
theorem Tot.pure {a : α} {p : α → Prop} (h : p a) : Tot (pure a : D α) p := fun B j => ⟨a, B, rfl, j, h⟩
theorem Tot.bind {d : D α} {f : α → D β} {p : α → Prop} {q : β → Prop} (h : Tot d p) (h2 : ∀ a, p a → Tot (f a) q) : Tot (d >>= f) q := fun B j => by
  obtain ⟨a, B1, e1, j1, pa⟩ := h B j
  obtain ⟨b, B2, e2, j2, qb⟩ := h2 a pa B1 j1
  exact ⟨b, B2, by show (d B).bind _ = _; rw [e1]; exact e2, j2, qb⟩
theorem Tot.up {x : Option α} {a : α} {p : α → Prop} (h : x = some a) (hp : p a) : Tot (Rn.up x : D α) p := fun B j => ⟨a, B, by subst h; rfl, j, hp⟩
theorem Tot.imp {d : D α} {p q : α → Prop} (h : Tot d p) (hq : ∀ a, p a → q a) : Tot d q := fun B j => by
  obtain ⟨a, B1, e1, j1, pa⟩ := h B j
  exact ⟨a, B1, e1, j1, hq a pa⟩
/-- what is settled: no draw -/
theorem Tot.upB {x : Option α} {a : α} {f : α → D β} {q : β → Prop} (h : x = some a) (h2 : Tot (f a) q) : Tot ((Rn.up x : D α) >>= f) q := Tot.bind (p := fun b => b = a) (Tot.up h rfl) fun b hb => by rw [hb]; exact h2
theorem Tot.pureB {a : α} {f : α → D β} {q : β → Prop} (h2 : Tot (f a) q) : Tot ((Pure.pure a : D α) >>= f) q := h2
theorem Tot.fold {F : σ → α → D σ} (I : σ → Prop) : ∀ (xs : List α) (s : σ), (∀ s, ∀ x ∈ xs, I s → Tot (F s x) I) → I s → Tot (foldM' F xs s) I
  | [], s, _, i => Tot.pure i
  | x :: xs, s, h, i => Tot.bind (h s x List.mem_cons_self i) fun t ht => Tot.fold I xs t (fun s y hy => h s y (List.mem_cons_of_mem _ hy)) ht
/-- .. with the items that are still to come -/
theorem Tot.foldL {F : σ → α → D σ} (I : List α → σ → Prop) : ∀ (xs : List α) (s : σ), (∀ x r s, I (x :: r) s → Tot (F s x) (I r)) → I xs s → Tot (foldM' F xs s) (I [])
  | [], s, _, i => Tot.pure i
  | x :: xs, s, h, i => Tot.bind (h x xs s i) fun t ht => Tot.foldL I xs t h ht
theorem Tot.loopR {F : σ → α → D (Out σ σ ρ)} (I : σ → Prop) : ∀ (xs : List α) (s : σ), (∀ s, ∀ x ∈ xs, I s → Tot (F s x) (fun o => ∃ t, o = .nx t ∧ I t)) → I s → Tot (TL.loopR F xs s : D (Out σ β ρ)) (fun o => ∃ t, o = .nx t ∧ I t)
  | [], s, _, i => Tot.pure ⟨s, rfl, i⟩
  | x :: xs, s, h, i => Tot.bind (h s x List.mem_cons_self i) fun o ho => by
    obtain ⟨t, rfl, it⟩ := ho
    exact Tot.loopR I xs t (fun s y hy => h s y (List.mem_cons_of_mem _ hy)) it
theorem Tot.loopB {F : σ → α → D (Out σ σ Empty)} (I : σ → Prop) : ∀ (xs : List α) (s : σ), (∀ s, ∀ x ∈ xs, I s → Tot (F s x) (fun o => (∃ t, o = .nx t ∧ I t) ∨ (∃ t, o = .bk t ∧ I t) ∨ ∃ t, o = .ct t ∧ I t)) → I s → Tot (TL.loopB F xs s) I
  | [], s, _, i => Tot.pure i
  | x :: xs, s, h, i => Tot.bind (h s x List.mem_cons_self i) fun o ho => by
    rcases ho with ⟨t, rfl, it⟩ | ⟨t, rfl, it⟩ | ⟨t, rfl, it⟩
    · exact Tot.loopB I xs t (fun s y hy => h s y (List.mem_cons_of_mem _ hy)) it
    · exact Tot.pure it
    · exact Tot.loopB I xs t (fun s y hy => h s y (List.mem_cons_of_mem _ hy)) it
theorem Tot.lcY {F : α → D β} (P : β → Prop) : ∀ xs : List α, (∀ x ∈ xs, Tot (F x) P) → Tot (TL.lcY F xs) (fun ys => ys.length = xs.length ∧ ∀ y ∈ ys, P y)
  | [], _ => Tot.pure ⟨rfl, fun y hy => by cases hy⟩
  | x :: xs, h => Tot.bind (h x List.mem_cons_self) fun y hy => Tot.bind (Tot.lcY P xs fun z hz => h z (List.mem_cons_of_mem _ hz)) fun ys hys => Tot.pure ⟨by simp [hys.1], fun z hz => by
    rcases List.mem_cons.mp hz with rfl | hz
    · exact hy
    · exact hys.2 z hz⟩
theorem Tot.on {d : D (Out σ β ρ)} {Q : σ → D (Out α β ρ)} {p : σ → Prop} {q : Out α β ρ → Prop} (h : Tot d (fun o => ∃ t, o = .nx t ∧ p t)) (h2 : ∀ s, p s → Tot (Q s) q) : Tot (d >>= Out.on Q) q := Tot.bind h fun o ho => by
  obtain ⟨t, rfl, pt⟩ := ho
  exact h2 t pt
theorem Tot.onR {d : D (Out σ Empty ρ)} {Q : σ → D ρ} {p : σ → Prop} {q : ρ → Prop} (h : Tot d (fun o => ∃ t, o = .nx t ∧ p t)) (h2 : ∀ s, p s → Tot (Q s) q) : Tot (d >>= Out.onR Q) q := Tot.bind h fun o ho => by
  obtain ⟨t, rfl, pt⟩ := ho
  exact h2 t pt
end
end TL
set_option Elab.async false
set_option linter.all false
set_option maxRecDepth 100000
set_option maxHeartbeats 4000000
/-! TL4: more of the same. -/
namespace TL
open PySem L2 DL
open Rn (rn up)
section
variable {M : Type → Type} [Rn M] {α β γ δ σ τ ρ : Type} {n : Nat} {Γ : Ctx}
variable {ma mb mc : EnvM → Bag → Res PD} {x y z : PD} {ea : α → PD} {eb : β → PD} {ec : γ → PD} {Pa : M α} {Pb : M β} {Pc : M γ}
theorem j_ixC {g : PD → PD → Option PD} {F : α → γ} (ha : J n Γ ma Pa ea) (hb : T n Γ mb y) (hg : ∀ a, g (ea a) y = some (ec (F a))) : J n Γ (mOp g ma mb) (Pa >>= fun a => (pure (F a) : M γ)) ec := fun env A B c B' r => by
  obtain ⟨a, B1, r1, r⟩ := rnB r
  obtain ⟨rfl, rfl⟩ := rnP r
  exact r_op (ha env A _ _ _ r1) (hb env A _) (hg _)
theorem j_cmpC {g : PD → PD → Option Bool} {F : α → Bool} (ha : J n Γ ma Pa ea) (hb : T n Γ mb y) (hg : ∀ a, g (ea a) y = some (F a)) : J n Γ (mCmp g ma mb) (Pa >>= fun a => (pure (F a) : M Bool)) id := fun env A B c B' r => by
  obtain ⟨a, B1, r1, r⟩ := rnB r
  obtain ⟨rfl, rfl⟩ := rnP r
  exact r_cmp (ha env A _ _ _ r1) (hb env A _) (hg _)
theorem j_cmpO {g : PD → PD → Option Bool} {F : α → β → Option Bool} (ha : J n Γ ma Pa ea) (hb : J n Γ mb Pb eb) (hg : ∀ a b c, F a b = some c → g (ea a) (eb b) = some c) : J n Γ (mCmp g ma mb) (Pa >>= fun a => Pb >>= fun b => (up (F a b) : M Bool)) id := fun env A B c B' r => by
  obtain ⟨a, B1, r1, r⟩ := rnB r
  obtain ⟨b, B2, r2, r⟩ := rnB r
  obtain ⟨h, rfl⟩ := rnU r
  exact r_cmp (ha env A _ _ _ r1) (hb env A _ _ _ r2) (hg _ _ _ h)
theorem j_cmpP {g : PD → PD → Option Bool} {F : Option Bool} (ha : T n Γ ma x) (hb : T n Γ mb y) (hg : ∀ c, F = some c → g x y = some c) : J n Γ (mCmp g ma mb) (up F : M Bool) id := fun env A B c B' r => by
  obtain ⟨h, rfl⟩ := rnU r
  exact r_cmp (ha env A B) (hb env A B) (hg _ h)
theorem t_andTT {m m' : EnvM → Bag → Res Bool} {k : Bool} (h : T n Γ m true) (h' : T n Γ m' k) : T n Γ (mAnd m m') k := fun env A B => r_andT (h env A B) (h' env A B)
theorem t_orFF {m m' : EnvM → Bag → Res Bool} {k : Bool} (h : T n Γ m false) (h' : T n Γ m' k) : T n Γ (mOr m m') k := fun env A B => r_orF (h env A B) (h' env A B)
theorem j_starL {r : EnvM → Bag → Res (List SV)} {e : α → PD} {P : M (List α)} {Q : M (List α)} (h : J n Γ ma P (eL e)) (h2 : J n Γ r Q (fun xs => xs.map fun x => SV.d (e x))) : J n Γ (mStar ma r) (P >>= fun xs => Q >>= fun ys => (pure (xs ++ ys) : M (List α))) (fun xs => xs.map fun x => SV.d (e x)) := fun env A B c B' q => by
  obtain ⟨a, B1, r1, q⟩ := rnB q
  obtain ⟨b, B2, r2, q⟩ := rnB q
  obtain ⟨rfl, rfl⟩ := rnP q
  unfold mStar
  rw [h env A _ _ _ r1]
  simp only [Res.bind, h2 env A _ _ _ r2, List.map_append, List.map_map, Function.comp_def]
theorem j_starT {r : EnvM → Bag → Res (List SV)} {e : α → PD} {P : M (List α)} {Q : M (List α)} (h : J n Γ ma P (eT e)) (h2 : J n Γ r Q (fun xs => xs.map fun x => SV.d (e x))) : J n Γ (mStar ma r) (P >>= fun xs => Q >>= fun ys => (pure (xs ++ ys) : M (List α))) (fun xs => xs.map fun x => SV.d (e x)) := fun env A B c B' q => by
  obtain ⟨a, B1, r1, q⟩ := rnB q
  obtain ⟨b, B2, r2, q⟩ := rnB q
  obtain ⟨rfl, rfl⟩ := rnP q
  unfold mStar
  rw [h env A _ _ _ r1]
  simp only [Res.bind, h2 env A _ _ _ r2, List.map_append, List.map_map, Function.comp_def]
theorem j_tupH {m : EnvM → Bag → Res (List SV)} {e : α → PD} {P : M (List α)} (h : J n Γ m P (fun xs => xs.map fun x => SV.d (e x))) : J n Γ (mTup m) (P >>= fun xs => (up (gd (xs.length ≤ sizeLine) xs) : M (List α))) (eT e) := fun env A B c B' q => by
  obtain ⟨a, B1, r1, q⟩ := rnB q
  obtain ⟨qq, rfl⟩ := rnU q
  obtain ⟨hl, rfl⟩ := gd_some qq
  exact r_tup (h env A _ _ _ r1) (unD_map' e a) (by rw [List.length_map]; exact hl)
theorem j_lstH {m : EnvM → Bag → Res (List SV)} {e : α → PD} {P : M (List α)} (h : J n Γ m P (fun xs => xs.map fun x => SV.d (e x))) : J n Γ (mLst m) (P >>= fun xs => (up (gd (xs.length ≤ sizeLine) xs) : M (List α))) (eL e) := fun env A B c B' q => by
  obtain ⟨a, B1, r1, q⟩ := rnB q
  obtain ⟨qq, rfl⟩ := rnU q
  obtain ⟨hl, rfl⟩ := gd_some qq
  exact r_lst (h env A _ _ _ r1) (unD_map' e a) (by rw [List.length_map]; exact hl)
def zipG (xs : List α) (ys : List β) : Option (List (α × β)) := gd (xs.length = ys.length) (xs.zip ys)
theorem zip_L (e : α → PD) (e' : β → PD) (xs : List α) (ys : List β) (b : List (α × β)) (h : zipG xs ys = some b) : (unD [.d (eL e xs), .d (eL e' ys)]).bind zipP = some (eL (eP2 e e') b) := by
  obtain ⟨hl, rfl⟩ := gd_some h
  show (if _ then _ else _) = _
  rw [if_pos (by rw [List.length_map, List.length_map]; exact hl)]
  have := pair_map e e' xs ys
  unfold pairP at this
  rw [this]
theorem zip_T (e : α → PD) (e' : β → PD) (xs : List α) (ys : List β) (b : List (α × β)) (h : zipG xs ys = some b) : (unD [.d (eT e xs), .d (eT e' ys)]).bind zipP = some (eL (eP2 e e') b) := by
  obtain ⟨hl, rfl⟩ := gd_some h
  show (if _ then _ else _) = _
  rw [if_pos (by rw [List.length_map, List.length_map]; exact hl)]
  have := pair_map e e' xs ys
  unfold pairP at this
  rw [this]
/-! statements -/
variable {Γ1 : σ → Ctx} {Γ2 : β → Ctx} {er : ρ → PD} {a b c : EnvM → Bag → SRes} {mt : EnvM → Bag → Res Bool}
theorem rs_ifT {P : M ρ} (hc : T n Γ mt true) (h : RJ n Γ (mSeq a c) P er) : RJ n Γ (mSeq (mIf mt a b) c) P er := fun env A B s B' r => by rw [seq_if (hc env A B)]; exact h env A _ _ _ r
theorem rs_ifF {P : M ρ} (hc : T n Γ mt false) (h : RJ n Γ (mSeq b c) P er) : RJ n Γ (mSeq (mIf mt a b) c) P er := fun env A B s B' r => by rw [seq_if (hc env A B)]; exact h env A _ _ _ r
theorem os_ifT {P : M (Out σ β ρ)} (hc : T n Γ mt true) (h : SJ n Γ (mSeq a c) P Γ1 Γ2 er) : SJ n Γ (mSeq (mIf mt a b) c) P Γ1 Γ2 er := fun env A B s B' r => by rw [seq_if (hc env A B)]; exact h env A _ _ _ r
theorem os_ifF {P : M (Out σ β ρ)} (hc : T n Γ mt false) (h : SJ n Γ (mSeq b c) P Γ1 Γ2 er) : SJ n Γ (mSeq (mIf mt a b) c) P Γ1 Γ2 er := fun env A B s B' r => by rw [seq_if (hc env A B)]; exact h env A _ _ _ r
theorem rs_fz {i : Nat} {P : M ρ} {xs : List PD} (hx : Γ.lookup i = some (some (.own xs))) (h : RJ n ((i, some (.d (.list xs))) :: Γ) (mSeq a c) P er) : RJ n Γ (mSeq (mFz i a) c) P er := fun env A => h _ (A.lendO hx)
theorem os_fz {i : Nat} {P : M (Out σ β ρ)} {xs : List PD} (hx : Γ.lookup i = some (some (.own xs))) (h : SJ n ((i, some (.d (.list xs))) :: Γ) (mSeq a c) P Γ1 Γ2 er) : SJ n Γ (mSeq (mFz i a) c) P Γ1 Γ2 er := fun env A => h _ (A.lendO hx)
theorem o_end {P : M (Out τ β ρ)} {Γ3 : τ → Ctx} {F : τ → σ} (h : SJ n Γ a P Γ3 Γ2 er) (hs : ∀ s, Sb (Γ1 (F s)) (Γ3 s)) : SJ n Γ a (P >>= Out.on (fun s => (pure (.nx (F s)) : M (Out σ β ρ)))) Γ1 Γ2 er := fun env A B s' B' r => by
  obtain ⟨o, B1, r1, r2⟩ := rnB r
  have q := h env A _ _ _ r1
  cases o with
  | nx s =>
    obtain ⟨rfl, rfl⟩ := rnP r2
    obtain ⟨e1, q1, A1⟩ := q
    exact ⟨e1, q1, A1.sub (hs s)⟩
  | bk s => obtain ⟨rfl, rfl⟩ := rnP r2; exact q
  | ct s => obtain ⟨rfl, rfl⟩ := rnP r2; exact q
  | rt x => obtain ⟨rfl, rfl⟩ := rnP r2; exact q
theorem fnN_ok {ss : List SV} {P : M σ} (h : NJ n (ctx0 0 ss) a P Γ1) (hl : ss.length ≤ n) : FJ (mFn n a) ss (P >>= fun _ => (pure () : M Unit)) eU := fun B r B' q => by
  obtain ⟨s, B1, r1, r2⟩ := rnB q
  obtain ⟨rfl, rfl⟩ := rnP r2
  obtain ⟨e1, q1, A1⟩ := h _ (Ag.start ss hl) _ _ _ r1
  unfold mFn; rw [q1]; rfl
/-- what is never reached, or raises -/
theorem n_bad {P : M σ} (h : ∀ B, rn P B = none) : NJ n Γ a P Γ1 := fun env A B s B' r => by rw [h B] at r; cases r
theorem r_bad {P : M ρ} (h : ∀ B, rn P B = none) : RJ n Γ a P er := fun env A B s B' r => by rw [h B] at r; cases r
end
def un2 {α : Type} : List α → Option (α × α)
  | [a, b] => some (a, b)
  | _ => none
theorem n_setL2 {M : Type → Type} [Rn M] {α : Type} {n i j : Nat} {Γ : Ctx} {me : EnvM → Bag → Res PD} {P : M (List α)} {e : α → PD} (h : J n Γ me P (eL e)) (hi : i < n) (hj : j < n) : NJ n Γ (mSet (mgLstU (mgCons (mgName i) (mgCons (mgName j) mgNil)) 2) me) (P >>= fun xs => (up (un2 xs) : M (α × α))) (fun p => (j, some (.d (e p.2))) :: (i, some (.d (e p.1))) :: Γ) := fun env A B s B' r => by
  obtain ⟨xs, B1, r1, r2⟩ := rnB r
  obtain ⟨q, rfl⟩ := rnU r2
  refine ⟨_, s_set (h env A _ _ _ r1) (e1 := (env.set i (some (.d (e s.1)))).set j (some (.d (e s.2)))) ?_, (A.set hi _).set hj _⟩
  match xs, q with
  | [a, b], q => cases q; rfl
/-! ### with a proof asked -/
open Classical in
noncomputable def gdc {α : Type} (p : Prop) (x : α) : Option α := if p then some x else none
theorem gdc_some {α : Type} {p : Prop} {x y : α} (h : gdc p x = some y) : p ∧ x = y := by
  unfold gdc at h
  by_cases c : p
  · rw [if_pos c] at h; cases h; exact ⟨c, rfl⟩
  · rw [if_neg c] at h; cases h
theorem gdc_of {α : Type} {p : Prop} {x : α} (h : p) : gdc p x = some x := if_pos h
theorem FJ.gdc {α : Type} {f : List SV → Bag → Res PD} {ss : List SV} {p : Prop} {v : α} {e : α → PD} (h : p → FT f ss (e v)) : FJ f ss (gdc p v) e := fun B r B' q => by
  obtain ⟨q1, rfl⟩ := rnO q
  obtain ⟨hp, rfl⟩ := gdc_some q1
  exact h hp B
/-- texts as they are, and numbers from 0 on -/
abbrev eR : Str → PD := PyData.str
abbrev eN : Nat → PD := fun k => .int (k : Int)
structure Inj {α : Type} (e : α → PD) : Prop where
  inj : ∀ a b, PyData.eqv (e a) (e b) = true ↔ a = b
theorem inj_R : Inj eR := ⟨fun a b => by simp [PyData.eqv]⟩
theorem inj_N : Inj eN := ⟨fun a b => by simp only [PyData.eqv]; simp; omega⟩
section
variable {α β γ : Type} {e : α → PD} {f : β → PD} {g : γ → PD} {k : Nat}
theorem Eqd.toInj (h : Eqd k e) : Inj e := ⟨h.inj⟩
theorem injsI (h : Inj e) : ∀ xs ys : List α, PyData.eqvAll (xs.map e) (ys.map e) = true ↔ xs = ys
  | [], [] => by simp [PyData.eqvAll]
  | [], _ :: _ => by simp [PyData.eqvAll]
  | _ :: _, [] => by simp [PyData.eqvAll]
  | x :: xs, y :: ys => by simp only [List.map_cons, PyData.eqvAll, Bool.and_eq_true, h.inj, injsI h xs ys, List.cons.injEq]
theorem inj_L (h : Inj e) : Inj (eL e) := ⟨fun xs ys => by simp only [PyData.eqv]; exact injsI h xs ys⟩
theorem inj_T (h : Inj e) : Inj (eT e) := ⟨fun xs ys => by simp only [PyData.eqv]; exact injsI h xs ys⟩
theorem inj_O (h : Inj e) (hn : ∀ a, e a ≠ .none) : Inj (eO e) := ⟨fun a b => by
  cases a with
  | none => cases b with
    | none => simp [PyData.eqv]
    | some b => simp only [eqv_none_l _ (hn b)]; simp
  | some a => cases b with
    | none => simp only [eqv_none_r _ (hn a)]; simp
    | some b => simp only [h.inj, Option.some.injEq]⟩
theorem inj_P2 (h : Inj e) (h2 : Inj f) : Inj (eP2 e f) := ⟨fun p q => by simp [PyData.eqv, PyData.eqvAll, h.inj, h2.inj, Prod.ext_iff]⟩
theorem inj_P3 (h : Inj e) (h2 : Inj f) (h3 : Inj g) : Inj (eP3 e f g) := ⟨fun p q => by simp [PyData.eqv, PyData.eqvAll, h.inj, h2.inj, h3.inj, Prod.ext_iff]⟩
abbrev shp (d : PD) : Prop := SeqAt.shaped d = true
variable [DecidableEq α]
theorem Inj.eqv (h : Inj e) (a b : α) : PyData.eqv (e a) (e b) = decide (a = b) := by
  have := h.inj a b
  cases q : PyData.eqv (e a) (e b) with
  | true => rw [decide_eq_true (this.mp q)]
  | false => rw [decide_eq_false fun z => by rw [this.mpr z] at q; cases q]
def eqG (e : α → PD) (a b : α) : Option Bool := gd (shp (e a) ∧ shp (e b)) (decide (a = b))
def neG (e : α → PD) (a b : α) : Option Bool := gd (shp (e a) ∧ shp (e b)) (!decide (a = b))
theorem eqg_d (h : Inj e) (a b : α) (c : Bool) (q : eqG e a b = some c) : eqP (e a) (e b) = some c := by
  obtain ⟨z, rfl⟩ := gd_some q
  unfold eqP
  rw [if_pos z, h.eqv]
theorem neg_d (h : Inj e) (a b : α) (c : Bool) (q : neG e a b = some c) : neP (e a) (e b) = some c := by
  obtain ⟨z, rfl⟩ := gd_some q
  unfold neP
  rw [if_pos z, h.eqv]
theorem any_i (h : Inj e) (a : α) : ∀ xs : List α, ((xs.map e).any fun z => PyData.eqv z (e a)) = decide (a ∈ xs)
  | [] => by simp
  | x :: r => by
    rw [List.map_cons, List.any_cons, any_i h a r, h.eqv]
    by_cases c : x = a
    · subst c; simp
    · have c' : ¬ a = x := fun z => c z.symm
      simp [c, c']
def inGL (e : α → PD) (a : α) (xs : List α) : Option Bool := gd (shp (e a) ∧ shp (eL e xs)) (decide (a ∈ xs))
def inGT (e : α → PD) (a : α) (xs : List α) : Option Bool := gd (shp (e a) ∧ shp (eT e xs)) (decide (a ∈ xs))
theorem ing_L (h : Inj e) (a : α) (xs : List α) (c : Bool) (q : inGL e a xs = some c) : inAP (e a) (eL e xs) = some c := by
  obtain ⟨z, rfl⟩ := gd_some q
  have q := any_i h a xs
  have e1 : inDP (e a) (.list (xs.map e)) = some (decide (a ∈ xs)) := by
    show (if _ then _ else _) = _
    rw [if_pos z, q]
  unfold inAP gOr
  have e2 : inP (e a) (.list (xs.map e)) = if flatP (e a) = true ∧ (xs.map e).all flatP = true then some ((xs.map e).any fun z => PyData.eqv z (e a)) else none := by cases (e a) <;> rfl
  rw [e2]
  by_cases c : flatP (e a) = true ∧ (xs.map e).all flatP = true
  · rw [if_pos c, q]
  · rw [if_neg c]; exact e1
theorem ing_T (h : Inj e) (a : α) (xs : List α) (c : Bool) (q : inGT e a xs = some c) : inAP (e a) (eT e xs) = some c := by
  obtain ⟨z, rfl⟩ := gd_some q
  have q := any_i h a xs
  have e1 : inDP (e a) (.tuple (xs.map e)) = some (decide (a ∈ xs)) := by
    show (if _ then _ else _) = _
    rw [if_pos z, q]
  unfold inAP gOr
  have e2 : inP (e a) (.tuple (xs.map e)) = if flatP (e a) = true ∧ (xs.map e).all flatP = true then some ((xs.map e).any fun z => PyData.eqv z (e a)) else none := by cases (e a) <;> rfl
  rw [e2]
  by_cases c : flatP (e a) = true ∧ (xs.map e).all flatP = true
  · rw [if_pos c, q]
  · rw [if_neg c]; exact e1
theorem ning_L (h : Inj e) (a : α) (xs : List α) (c : Bool) (q : (inGL e a xs).map (!·) = some c) : ninAP (e a) (eL e xs) = some c := by
  cases z : inGL e a xs with
  | none => rw [z] at q; cases q
  | some b => rw [z] at q; cases q; exact nin_of (ing_L h a xs b z)
theorem ning_T (h : Inj e) (a : α) (xs : List α) (c : Bool) (q : (inGT e a xs).map (!·) = some c) : ninAP (e a) (eT e xs) = some c := by
  cases z : inGT e a xs with
  | none => rw [z] at q; cases q
  | some b => rw [z] at q; cases q; exact nin_of (ing_T h a xs b z)
theorem idx_i (h : Inj e) (a : α) : ∀ xs : List α, a ∈ xs → DL.idxOf (e a) (xs.map e) = some (xs.idxOf a)
  | [], z => by cases z
  | x :: r, z => by
    rw [List.map_cons]
    unfold DL.idxOf
    rw [List.idxOf_cons, h.eqv]
    by_cases c : x = a
    · subst c; simp
    · have hx : a ∈ r := by
        rcases List.mem_cons.mp z with rfl | z
        · exact absurd rfl c
        · exact z
      rw [idx_i h a r hx]
      have c2 : (x == a) = false := by simp [c]
      rw [c2]
      simp [c]
def indexGL (e : α → PD) (xs : List α) (a : α) : Option Int := gd (a ∈ xs ∧ shp (eL e xs) ∧ shp (e a)) (xs.idxOf a : Nat)
def indexGT (e : α → PD) (xs : List α) (a : α) : Option Int := gd (a ∈ xs ∧ shp (eT e xs) ∧ shp (e a)) (xs.idxOf a : Nat)
theorem indexg_L (h : Inj e) (xs : List α) (a : α) (c : Int) (hc : indexGL e xs a = some c) : indexP (eL e xs) (e a) = some (.int c) := by
  obtain ⟨z, rfl⟩ := gd_some hc
  show (if _ then _ else _) = _
  rw [if_pos z.2, idx_i h a xs z.1]; rfl
theorem indexg_T (h : Inj e) (xs : List α) (a : α) (c : Int) (hc : indexGT e xs a = some c) : indexP (eT e xs) (e a) = some (.int c) := by
  obtain ⟨z, rfl⟩ := gd_some hc
  show (if _ then _ else _) = _
  rw [if_pos z.2, idx_i h a xs z.1]; rfl
end
/-! ### what a def does at any values, as a draw -/
def evD (r : Bag → Res PD) : D PD := fun B => match r B with
  | .ok d B' => some (d, B')
  | _ => none
theorem evD_ok {r : Bag → Res PD} {B B' : Bag} {d : PD} (h : evD r B = some (d, B')) : r B = .ok d B' := by
  unfold evD at h
  split at h
  · rename_i d' B1 e; cases h; exact e
  · cases h
theorem evD_of {r : Bag → Res PD} {B B' : Bag} {d : PD} (h : r B = .ok d B') : evD r B = some (d, B') := by unfold evD; rw [h]
theorem FJ.ev (f : List SV → Bag → Res PD) (ss : List SV) : FJ f ss (evD (f ss)) (id : PD → PD) := fun B r B' q => evD_ok q
theorem j_lam {n : Nat} {Γ : Ctx} {mF : Deed → Bag → Res PD} {np : Nat} {f : List SV → Bag → Res PD} {m : EnvM → Bag → Res (List SV)} {ss : List SV} (h : T n Γ m ss) (hl : ss.length = np) : J n Γ (mLam mF (mCallE np f m)) (evD (mF (f ss))) (id : PD → PD) := fun env A B d B' q => by
  have e : mCallE np f m env = f ss := by
    funext B
    unfold mCallE; rw [h env A B]; simp only [Res.bind, hl, if_true]
  unfold mLam
  rw [e, evD_ok q]; rfl
theorem j_lamC {n : Nat} {Γ : Ctx} {mF : Deed → Bag → Res PD} {np : Nat} {f : List SV → Bag → Res PD} {m : EnvM → Bag → Res (List SV)} {ss : List SV} (h : T n Γ m ss) (hl : ss.length = np) : J n Γ (mLam mF (mCall np f m)) (evD (mF (mCall np f (fun _ B => .ok ss B) []))) (id : PD → PD) := fun env A B d B' q => by
  have e : mCall np f m env = mCall np f (fun _ B => .ok ss B) [] := by
    funext B
    unfold mCall; rw [h env A B]
  unfold mLam
  rw [e, evD_ok q]; rfl
end TL
set_option Elab.async false
set_option linter.all false
set_option maxRecDepth 100000
set_option maxHeartbeats 4000000
/-! TL5: defs of which something is known already, as typed functions. -/
namespace TL
open PySem L2 DL
open Rn (rn up)
section
variable {α : Type}
open Classical in
noncomputable def chD (f : List SV → Bag → Res PD) (ss : List SV) (e : α → PD) (Q : α → Prop) : D α := fun B => if h : ∃ p : α × Bag, f ss B = .ok (e p.1) p.2 ∧ Q p.1 ∧ (JB B → JB p.2) then some h.choose else none
theorem FJ.chD (f : List SV → Bag → Res PD) (ss : List SV) (e : α → PD) (Q : α → Prop) : FJ f ss (chD f ss e Q) e := fun B r B' q => by
  change TL.chD f ss e Q B = _ at q
  unfold TL.chD at q
  by_cases h : ∃ p : α × Bag, f ss B = .ok (e p.1) p.2 ∧ Q p.1 ∧ (JB B → JB p.2)
  · rw [dif_pos h] at q
    have := h.choose_spec.1
    cases q' : h.choose with
    | mk a b => rw [q'] at q this; cases q; exact this
  · rw [dif_neg h] at q; cases q
theorem Tot.chD {f : List SV → Bag → Res PD} {ss : List SV} {e : α → PD} {Q : α → Prop} (h : ∀ B, JB B → ∃ a B', f ss B = .ok (e a) B' ∧ Q a ∧ JB B') : Tot (chD f ss e Q) Q := fun B j => by
  obtain ⟨a, B', h1, h2, h3⟩ := h B j
  have hx : ∃ p : α × Bag, f ss B = .ok (e p.1) p.2 ∧ Q p.1 ∧ (JB B → JB p.2) := ⟨(a, B'), h1, h2, fun _ => h3⟩
  refine ⟨hx.choose.1, hx.choose.2, ?_, hx.choose_spec.2.2 j, hx.choose_spec.2.1⟩
  unfold TL.chD
  rw [dif_pos hx]
open Classical in
noncomputable def chO (f : List SV → Bag → Res PD) (ss : List SV) (e : α → PD) (Q : α → Prop) : Option α := if h : ∃ a : α, (∀ B, f ss B = .ok (e a) B) ∧ Q a then some h.choose else none
theorem FJ.chO (f : List SV → Bag → Res PD) (ss : List SV) (e : α → PD) (Q : α → Prop) : FJ f ss (chO f ss e Q) e := fun B r B' q => by
  obtain ⟨q, rfl⟩ := rnO q
  unfold TL.chO at q
  by_cases h : ∃ a : α, (∀ B, f ss B = .ok (e a) B) ∧ Q a
  · rw [dif_pos h] at q; cases q; exact h.choose_spec.1 B
  · rw [dif_neg h] at q; cases q
theorem chO_of {f : List SV → Bag → Res PD} {ss : List SV} {e : α → PD} {Q : α → Prop} (h : ∃ a : α, (∀ B, f ss B = .ok (e a) B) ∧ Q a) : ∃ a, chO f ss e Q = some a ∧ Q a := ⟨h.choose, by unfold chO; rw [dif_pos h], h.choose_spec.2⟩
/-- two values that are one, told alike -/
def alkP (f : List SV → Bag → Res PD) (x y : PD) : Prop := ∀ B, f [.d x, .d y] B = .ok (.bool true) B
theorem fj_alk (f : List SV → Bag → Res PD) (x y : PD) : FJ f [.d x, .d y] (gdc (alkP f x y) true) eBool := FJ.gdc fun h B => h B
end
end TL
set_option Elab.async false
set_option linter.all false
set_option maxRecDepth 100000
set_option maxHeartbeats 4000000
/-! TL6: reckoning with typed functions. -/
namespace TL
open PySem L2 DL
open Rn (rn up)
instance : LawfulMonad D := LawfulMonad.mk' D
  (id_map := fun x => by
    funext B
    show (x B).bind (fun p => some (id p.1, p.2)) = x B
    cases x B <;> rfl)
  (pure_bind := fun a f => rfl)
  (bind_assoc := fun x f g => by
    funext B
    show ((x B).bind fun p => f p.1 p.2).bind (fun p => g p.1 p.2) = (x B).bind fun p => (f p.1 p.2).bind fun q => g q.1 q.2
    cases x B <;> rfl)
section
variable {α β σ ρ : Type}
theorem upD_some (a : α) : (Rn.up (some a) : D α) = pure a := rfl
theorem upD_of {x : Option α} {a : α} (h : x = some a) : (Rn.up x : D α) = pure a := by rw [h]; rfl
theorem upO_of {x : Option α} {a : α} (h : x = some a) : (Rn.up x : Option α) = pure a := h
theorem some_bind' (a : α) (f : α → Option β) : (some a >>= f) = f a := rfl
theorem up_bindO (x : Option α) (f : α → Option β) : (Rn.up (x >>= f) : Option β) = (Rn.up x : Option α) >>= fun a => Rn.up (f a) := rfl
/-- a loop whose turns may break: what holds with the items to come -/
theorem Tot.loopBL {F : σ → α → D (Out σ σ Empty)} (I : List α → σ → Prop) (Q : σ → Prop) : ∀ (xs : List α) (s : σ), (∀ x r s, I (x :: r) s → Tot (F s x) (fun o => (∃ t, o = .nx t ∧ I r t) ∨ (∃ t, o = .bk t ∧ Q t) ∨ ∃ t, o = .ct t ∧ I r t)) → (∀ s, I [] s → Q s) → I xs s → Tot (TL.loopB F xs s) Q
  | [], s, _, q, i => Tot.pure (q s i)
  | x :: xs, s, h, q, i => Tot.bind (h x xs s i) fun o ho => by
    rcases ho with ⟨t, rfl, it⟩ | ⟨t, rfl, it⟩ | ⟨t, rfl, it⟩
    · exact Tot.loopBL I Q xs t h q it
    · exact Tot.pure it
    · exact Tot.loopBL I Q xs t h q it
theorem Tot.loopRL {F : σ → α → D (Out σ σ ρ)} (I : List α → σ → Prop) : ∀ (xs : List α) (s : σ), (∀ x r s, I (x :: r) s → Tot (F s x) (fun o => ∃ t, o = .nx t ∧ I r t)) → I xs s → Tot (TL.loopR F xs s : D (Out σ β ρ)) (fun o => ∃ t, o = .nx t ∧ I [] t)
  | [], s, _, i => Tot.pure ⟨s, rfl, i⟩
  | x :: xs, s, h, i => Tot.bind (h x xs s i) fun o ho => by
    obtain ⟨t, rfl, it⟩ := ho
    exact Tot.loopRL I xs t h it
/-- the same in Option, with the items to come -/
theorem foldM_L {F : σ → α → Option σ} (I : List α → σ → Prop) : ∀ (xs : List α) (s : σ), (∀ x r s, I (x :: r) s → ∃ t, F s x = some t ∧ I r t) → I xs s → ∃ t, foldM' F xs s = some t ∧ I [] t
  | [], s, _, i => ⟨s, rfl, i⟩
  | x :: xs, s, h, i => by
    obtain ⟨t, h1, i1⟩ := h x xs s i
    obtain ⟨u, h2, i2⟩ := foldM_L I xs t h i1
    exact ⟨u, by unfold foldM'; rw [bind_of h1]; exact h2, i2⟩
theorem lcY_ex {F : α → Option β} (P : β → Prop) : ∀ xs : List α, (∀ x ∈ xs, ∃ y, F x = some y ∧ P y) → ∃ ys, lcY F xs = some ys ∧ ys.length = xs.length ∧ ∀ y ∈ ys, P y
  | [], _ => ⟨[], rfl, rfl, fun y hy => by cases hy⟩
  | x :: xs, h => by
    obtain ⟨y, h1, p⟩ := h x List.mem_cons_self
    obtain ⟨ys, h2, l, q⟩ := lcY_ex P xs fun z hz => h z (List.mem_cons_of_mem _ hz)
    refine ⟨y :: ys, ?_, by simp [l], fun z hz => ?_⟩
    · unfold lcY
      rw [bind_of h1, bind_of h2]; rfl
    · rcases List.mem_cons.mp hz with rfl | hz
      · exact p
      · exact q z hz
/-- comprehensions without a draw, among draws -/
theorem lcYD {F : α → Option β} : ∀ xs : List α, lcY (fun x => (Rn.up (F x) : D β)) xs = (Rn.up (lcY F xs) : D (List β))
  | [] => rfl
  | x :: xs => by
    unfold lcY
    rw [lcYD xs]
    cases F x with
    | none => rfl
    | some y =>
      show (Rn.up (lcY F xs) >>= fun ys => pure (y :: ys) : D (List β)) = Rn.up (lcY F xs >>= fun ys => pure (y :: ys))
      cases lcY F xs <;> rfl
theorem lcMD_of {C : α → D Bool} {F : α → D β} {c : α → Bool} {f : α → β} : ∀ xs : List α, (∀ x ∈ xs, C x = pure (c x)) → (∀ x ∈ xs, c x = true → F x = pure (f x)) → lcM C F xs = (pure ((xs.filter c).map f) : D (List β))
  | [], _, _ => rfl
  | x :: xs, h, h2 => by
    have ih := lcMD_of xs (fun y hy => h y (List.mem_cons_of_mem _ hy)) (fun y hy => h2 y (List.mem_cons_of_mem _ hy))
    unfold lcM
    rw [h x List.mem_cons_self, List.filter_cons, pure_bind]
    cases q : c x with
    | true => rw [if_pos rfl, if_pos rfl, h2 x List.mem_cons_self q, pure_bind, ih, pure_bind]; rfl
    | false => rw [if_neg Bool.false_ne_true, if_neg Bool.false_ne_true, ih]
theorem rng_len (lo : Int) (k : Nat) : (rng lo k).length = k := by unfold rng; simp
theorem rng_mem {lo : Int} {k : Nat} {x : Int} (h : x ∈ rng lo k) : lo ≤ x ∧ x < lo + k := by
  unfold rng at h
  obtain ⟨i, hi, rfl⟩ := List.mem_map.mp h
  have := List.mem_range.mp hi
  omega
theorem range1_of {j : Int} (h0 : 0 ≤ j) (h : j < 1000000) : range1 j = some (rng 0 j.toNat) := if_pos ⟨by omega, by omega⟩
theorem szL {k : Nat} (h : k ≤ 1000000) : k ≤ sizeLine := Nat.le_trans h (by decide)
theorem szl {k : Nat} (h : k < 1000000) : k < sizeLine := Nat.lt_of_lt_of_le h (by decide)
theorem appG_ok {xs ys : List α} (h : xs.length + ys.length ≤ 1000000) : appG xs ys = some (xs ++ ys) := appG_of (szL h)
theorem cut_lo' (xs : List α) (k : Nat) : cutP xs none (some (k : Int)) = xs.take k := by
  unfold cutP
  rw [HT.sIx_none, HT.sIx_nat, List.drop_zero, Nat.sub_zero, ← List.take_eq_take_min]
theorem cut_hi' (xs : List α) (k : Nat) : cutP xs (some (k : Int)) none = xs.drop k := by
  unfold cutP
  rw [HT.sIx_none, HT.sIx_nat]
  rcases Nat.le_total k xs.length with h | h
  · rw [Nat.min_eq_left h, List.take_of_length_le (by simp)]
  · rw [Nat.min_eq_right h, Nat.sub_self, List.take_zero, List.drop_eq_nil_of_le h]
theorem atI_last (xs : List α) (d : α) : atI (xs ++ [d]) (-1) = some d := by
  unfold atI ixN
  rw [if_neg (by decide), if_pos (by simp; omega)]
  have e : (-1 + ((xs ++ [d]).length : Int)).toNat = xs.length := by simp; omega
  show (xs ++ [d])[(-1 + ((xs ++ [d]).length : Int)).toNat]? = _
  rw [e]; simp
theorem atI_at {xs : List α} {k : Nat} {d : α} (h : xs[k]? = some d) : atI xs (k : Int) = some d := atI_nat' h
theorem decide_any {p : Prop} (i j : Decidable p) : @decide p i = @decide p j := by congr
theorem inGL_of [DecidableEq α] {e : α → PD} {a : α} {xs : List α} [i : Decidable (a ∈ xs)] (h1 : shp (e a)) (h2 : shp (TL.eL e xs)) : inGL e a xs = some (@decide (a ∈ xs) i) := by
  unfold inGL
  rw [gd_of ⟨h1, h2⟩]
  congr
theorem inGT_of [DecidableEq α] {e : α → PD} {a : α} {xs : List α} [i : Decidable (a ∈ xs)] (h1 : shp (e a)) (h2 : shp (TL.eT e xs)) : inGT e a xs = some (@decide (a ∈ xs) i) := by
  unfold inGT
  rw [gd_of ⟨h1, h2⟩]
  congr
theorem eqG_of [DecidableEq α] {e : α → PD} {a b : α} [i : Decidable (a = b)] (h1 : shp (e a)) (h2 : shp (e b)) : eqG e a b = some (@decide (a = b) i) := by
  unfold eqG
  rw [gd_of ⟨h1, h2⟩]
  congr
theorem neG_of [DecidableEq α] {e : α → PD} {a b : α} [i : Decidable (a = b)] (h1 : shp (e a)) (h2 : shp (e b)) : neG e a b = some (!@decide (a = b) i) := by
  unfold neG
  rw [gd_of ⟨h1, h2⟩]
  congr
end
end TL
set_option Elab.async false
set_option linter.all false
set_option maxRecDepth 100000
set_option maxHeartbeats 4000000
/-! TL7: x[i] = e of an own list, the lesser of two, lambdas with reckoned arguments, defs as they are. -/
namespace TL
open PySem L2 DL
open Rn (rn up)
section
variable {M : Type → Type} [Rn M] {α β γ σ : Type} {n : Nat} {Γ : Ctx}
def setG (xs : List α) (k : Int) (d : α) : Option (List α) := (L2.ixN xs.length k).map fun j => xs.set j d
theorem n_setIx {i : Nat} {mi mv : EnvM → Bag → Res PD} {Pv : M α} {Pi : M Int} {e : α → PD} {xs : List α} (hx : Γ.lookup i = some (some (.own (xs.map e)))) (hv : J n Γ mv Pv e) (hk : J n Γ mi Pi PyData.int) (hi : i < n) :
    NJ n Γ (mSetIx i mi mv) (Pv >>= fun d => Pi >>= fun k => (up (setG xs k d) : M (List α))) (fun ys => (i, some (.own (ys.map e))) :: Γ) := fun env A B s B' r => by
  obtain ⟨d, B1, r1, r2⟩ := rnB r
  obtain ⟨k, B2, r3, r4⟩ := rnB r2
  obtain ⟨q, rfl⟩ := rnU r4
  unfold setG at q
  cases ej : L2.ixN xs.length k with
  | none => rw [ej] at q; cases q
  | some j =>
    rw [ej] at q
    cases q
    refine ⟨env.set i (some (.own ((xs.set j d).map e))), ?_, A.set hi _⟩
    unfold mSetIx
    rw [hv env A _ _ _ r1]
    simp only [Res.s, A.get _ _ hx, hk env A _ _ _ r3, List.length_map, ej, List.map_set]
def min2I (i j : Int) : Int := if j < i then j else i
theorem min_int (i j : Int) : (unD [.d (eInt i), .d (eInt j)]).bind min2P = some (eInt (min2I i j)) := rfl
def JustAt (mF : Deed → Bag → Res PD) : Prop := ∀ (d d' : Deed) (B B1 : Bag), d B = d' B1 → mF d B = mF d' B1
theorem told_at (tg c : Str) (mh : List (Str × PD) → Option (List PD)) : JustAt (mTold tg c mh) := fun d d' B B1 h => by unfold mTold; rw [h]
theorem j_lamJ {mF : Deed → Bag → Res PD} {np : Nat} {f : List SV → Bag → Res PD} {m : EnvM → Bag → Res (List SV)} {Pa : D α} {sv : α → List SV} (h : J n Γ m Pa sv) (hl : ∀ a, (sv a).length = np) (hF : JustAt mF := by exact told_at _ _ _) : J n Γ (mLam mF (mCallE np f m)) (Pa >>= fun a => evD (mF (f (sv a)))) (id : PD → PD) := fun env A B d B' q => by
  obtain ⟨a, B1, r1, r2⟩ := rnB q
  have e : mF (mCallE np f m env) B = mF (f (sv a)) B1 := hF _ _ _ _ (by
    unfold mCallE; rw [h env A _ _ _ r1]; simp only [Res.bind, hl, if_true])
  unfold mLam
  rw [e, evD_ok r2]; rfl
end
/-- a def that draws nothing, as it is -/
noncomputable def ch1 {α : Type} (f : List SV → Bag → Res PD) (ss : List SV) (e : α → PD) : Option α := chO f ss e (fun _ => True)
theorem FJ.ch1 {α : Type} (f : List SV → Bag → Res PD) (ss : List SV) (e : α → PD) : FJ f ss (ch1 f ss e) e := FJ.chO _ _ _ _
theorem ch1_eq {α : Type} {f : List SV → Bag → Res PD} {ss : List SV} {e : α → PD} {a : α} (i : Inj e) (h : ∀ B, f ss B = .ok (e a) B) : ch1 f ss e = some a := by
  have hx : ∃ a : α, (∀ B, f ss B = .ok (e a) B) ∧ True := ⟨a, h, trivial⟩
  obtain ⟨b, hb, hq⟩ : ∃ b, ch1 f ss e = some b ∧ ∀ B, f ss B = .ok (e b) B := ⟨hx.choose, by unfold ch1 chO; rw [dif_pos hx], hx.choose_spec.1⟩
  have B0 : Bag := ⟨0, 0, 0, []⟩
  have := (h B0).symm.trans (hq B0)
  have e1 : e a = e b := by injection this
  have : b = a := (i.inj b a).mp (by rw [e1]; exact (i.inj b b).mpr rfl)
  rw [hb, this]
end TL
set_option Elab.async false
set_option linter.all false
set_option maxRecDepth 100000
set_option maxHeartbeats 4000000
/-! TL8: bits, joined texts, int(t, 2), lists backwards, an int's truth. -/
namespace TL
open PySem L2 DL
open Rn (rn up)
def shrG (x y : Int) : Option Int := gd (0 ≤ y) (x / 2 ^ y.toNat)
theorem shr_int (x y c : Int) (h : shrG x y = some c) : shrP (eInt x) (eInt y) = some (eInt c) := by
  obtain ⟨q, rfl⟩ := gd_some h
  show (if _ then _ else _) = _
  rw [if_pos q]
theorem and_int (x y : Int) : andP (eInt x) (eInt y) = some (eInt (Builtin.bitAnd x y)) := rfl
section
variable {M : Type → Type} [Rn M] {α β γ σ : Type} {n : Nat} {Γ : Ctx} {ma mb : EnvM → Bag → Res PD}
theorem n_augG {i : Nat} {g : PD → PD → Option PD} {F : Int → Int → Option Int} {x : Int} {P : M Int} (hx : Γ.lookup i = some (some (.d (.int x)))) (h : J n Γ ma P PyData.int) (hg : ∀ a b c, F a b = some c → g (eInt a) (eInt b) = some (eInt c)) (hi : i < n) : NJ n Γ (mAugG i g ma) (P >>= fun y => (up (F x y) : M Int)) (fun z => (i, some (.d (.int z))) :: Γ) := fun env A B s B' r => by
  obtain ⟨y, B1, r1, r2⟩ := rnB r
  obtain ⟨q, rfl⟩ := rnU r2
  refine ⟨_, ?_, A.set hi _⟩
  unfold mAugG; rw [A.get _ _ hx]; simp only [h env A _ _ _ r1, Res.s, hg _ _ _ q]
theorem t_revL {ds : List PD} (h : T n Γ ma (.list ds)) : T n Γ (mRevL ma) (.list ds.reverse) := fun env A B => by unfold mRevL; rw [h env A B]; rfl
theorem t_revL' {e : α → PD} {xs : List α} (h : T n Γ ma (eL e xs)) : T n Γ (mRevL ma) (eL e xs.reverse) := fun env A B => by
  rw [t_revL h env A B]
  show Res.ok (PyData.list (xs.map e).reverse) B = Res.ok (PyData.list (xs.reverse.map e)) B
  rw [List.map_reverse]
theorem j_revL {e : α → PD} {P : M (List α)} (h : J n Γ ma P (eL e)) : J n Γ (mRevL ma) (P >>= fun xs => (pure xs.reverse : M (List α))) (eL e) := fun env A B c B' r => by
  obtain ⟨xs, B1, r1, r2⟩ := rnB r
  obtain ⟨rfl, rfl⟩ := rnP r2
  unfold mRevL; rw [h env A _ _ _ r1]
  show Res.ok (PyData.list (xs.map e).reverse) B1 = Res.ok (PyData.list (xs.reverse.map e)) B1
  rw [List.map_reverse]
theorem j_revT {e : α → PD} {P : M (List α)} (h : J n Γ ma P (eT e)) : J n Γ (mRev ma) (P >>= fun xs => (pure xs.reverse : M (List α))) (eT e) := fun env A B c B' r => by
  obtain ⟨xs, B1, r1, r2⟩ := rnB r
  obtain ⟨rfl, rfl⟩ := rnP r2
  unfold mRev; rw [h env A _ _ _ r1]
  show Res.ok (PyData.tuple (xs.map e).reverse) B1 = Res.ok (PyData.tuple (xs.reverse.map e)) B1
  rw [List.map_reverse]
theorem t_truI {i : Int} (h : T n Γ ma (.int i)) : T n Γ (mTru truP ma) (!decide (i = 0)) := fun env A B => by
  unfold mTru; rw [h env A B]
  show (match truP (.int i) with | some z => Res.ok z B | none => .bad) = _
  have : truP (.int i) = some (!decide (i = 0)) := by
    unfold truP
    first | rfl | (by_cases c : i = 0 <;> simp [c])
  rw [this]
theorem j_truI {P : M Int} (h : J n Γ ma P PyData.int) : J n Γ (mTru truP ma) (P >>= fun i => (pure (!decide (i = 0)) : M Bool)) id := fun env A B c B' r => by
  obtain ⟨i, B1, r1, r2⟩ := rnB r
  obtain ⟨rfl, rfl⟩ := rnP r2
  unfold mTru; rw [h env A _ _ _ r1]
  show (match truP (.int i) with | some z => Res.ok z B1 | none => .bad) = _
  have : truP (.int i) = some (!decide (i = 0)) := by
    unfold truP
    first | rfl | (by_cases c : i = 0 <;> simp [c])
  rw [this]; rfl
def joinG (a : Str) (ys : List Str) : Option Str := gd ((ys.map (fun y : Str => y.length)).sum + ys.length * a.length ≤ 16777216) (Txt.join a ys)
theorem strs_R : ∀ ys : List Str, strsJP (ys.map eR) = some ys
  | [] => rfl
  | y :: r => by
    show (strsJP (r.map eR)).map (y :: ·) = _
    rw [strs_R r]; rfl
theorem j_join {a : Str} {P : M (List Str)} (ha : T n Γ ma (eR a)) (h : J n Γ mb P (eL eR)) : J n Γ (mJoin ma mb) (P >>= fun ys => (up (joinG a ys) : M Str)) eR := fun env A B c B' r => by
  obtain ⟨ys, B1, r1, r2⟩ := rnB r
  obtain ⟨q1, rfl⟩ := rnU r2
  obtain ⟨q, rfl⟩ := gd_some q1
  unfold mJoin; rw [ha env A B]
  simp only [Res.bind]
  rw [h env A _ _ _ r1]
  have : joinP a (eL eR ys) = some (.str (Txt.join a ys)) := by
    show (match strsJP (ys.map eR) with | some ys => if (ys.map (fun y : Str => y.length)).sum + ys.length * a.length ≤ 16777216 then some (PyData.str (Txt.join a ys)) else none | none => none) = _
    rw [strs_R]
    exact if_pos q
  simp only [this]
def intBinG (x : Str) : Option Int := gd (x.cps.toList ≠ [] ∧ x.length ≤ 640 ∧ (x.cps.toList.all fun c => c == 48 || c == 49) = true) ((Bx.binNum x.cps.toList : Nat) : Int)
theorem intBin_R (x : Str) (c : Int) (h : intBinG x = some c) : (unD [.d (eR x), .d (eInt 2)]).bind intBinP = some (eInt c) := by
  obtain ⟨q, rfl⟩ := gd_some h
  show (if _ then _ else _) = _
  rw [if_pos q]
end
end TL
set_option Elab.async false
set_option linter.all false
set_option maxRecDepth 100000
set_option maxHeartbeats 4000000
/-! QA: _law_alike of a thing with itself. -/
namespace DL
open PySem L2
mutual
def nd : PD → Nat
  | .list xs => 1 + nds xs
  | .tuple xs => 1 + nds xs
  | _ => 1
def nds : List PD → Nat
  | [] => 0
  | x :: r => nd x + nds r
end
mutual
def okA : PD → Bool
  | .list xs => okAs xs
  | .tuple xs => okAs xs
  | .dict _ => false
  | .str x => SeqAt.shaped (.str x)
  | _ => true
def okAs : List PD → Bool
  | [] => true
  | x :: r => okA x && okAs r
end
theorem nds_append : ∀ (xs ys : List PD), nds (xs ++ ys) = nds xs + nds ys
  | [], ys => by simp [nds]
  | x :: r, ys => by simp only [List.cons_append, nds, nds_append r ys]; omega
theorem okAs_append : ∀ (xs ys : List PD), okAs (xs ++ ys) = (okAs xs && okAs ys)
  | [], ys => by simp [okAs]
  | x :: r, ys => by simp only [List.cons_append, okAs, okAs_append r ys, Bool.and_assoc]
theorem nd_pos (x : PD) : 1 ≤ nd x := by cases x <;> simp [nd] <;> omega
theorem len_nds : ∀ xs : List PD, xs.length ≤ nds xs
  | [] => by simp [nds]
  | x :: r => by have := len_nds r; have := nd_pos x; simp only [List.length_cons, nds]; omega
def dupA (x : PD) : PD := .tuple [x, x]
theorem zip_dup : ∀ xs : List PD, List.zipWith (fun x y => PyData.tuple [x, y]) xs xs = xs.map dupA
  | [] => rfl
  | x :: r => by simp only [List.zipWith, List.map, zip_dup r]; rfl
def isSeqB : PD → Bool
  | .list _ => true
  | .tuple _ => true
  | _ => false
theorem neP_none : neP .none .none = some false := by
  unfold neP
  rw [if_pos ⟨by decide, by decide⟩]
  rfl
theorem neP_self {x : PD} (h : okA x = true) (hs : isSeqB x = false) : neP x x = some false := by
  cases x with
  | list xs => cases hs
  | tuple xs => cases hs
  | dict xs => cases h
  | int i => rw [neP_int]; simp
  | bool b => rw [neP_bool]; simp
  | none => exact neP_none
  | str s =>
    unfold neP
    rw [if_pos ⟨h, h⟩]
    show some (!PyData.eqv (.str s) (.str s)) = some false
    simp [PyData.eqv]
abbrev alC : EnvM → Bag → Res Bool := mCmp ltP (mVar 3) (mLenOwn 2)
abbrev alB : EnvM → Bag → SRes := (mSeq (mSet (mgTup (mgCons (mgName 4) (mgCons (mgName 5) mgNil)) 2) (mIxOwn 2 (mVar 3)))
  (mSeq (mAug 3 (fun i j => i + j) (mC (.int 1)))
  (mSeq (mIf (mOr (mCmp neP (mIsi isBoolB (mVar 4)) (mIsi isBoolB (mVar 5))) (mCmp neP (mIsi isStrB (mVar 4)) (mIsi isStrB (mVar 5)))) (mRet (mC (.bool false))) mSkip)
  (mSeq (mIf (mCmp neP (mIsi2 isTupB isListB (mVar 4)) (mIsi2 isTupB isListB (mVar 5))) (mRet (mC (.bool false))) mSkip)
  (mIf (mTru truP (mIsi2 isTupB isListB (mVar 4))) (mSeq (mIf (mOr (mCmp neP (mIsi isTupB (mVar 4)) (mIsi isTupB (mVar 5))) (mCmp neP (mCa lenP (mCons (mG (mVar 4)) mNil)) (mCa lenP (mCons (mG (mVar 5)) mNil)))) (mRet (mC (.bool false))) mSkip)
  (mExt 2 (mCa zipP (mCons (mG (mVar 4)) (mCons (mG (mVar 5)) mNil))))) (mIf (mCmp neP (mVar 4) (mVar 5)) (mRet (mC (.bool false))) mSkip))))))
theorem wh_end {c : EnvM → Bag → Res Bool} {body : EnvM → Bag → SRes} {env : EnvM} {B : Bag} (h : c env B = .ok false B) : mWhile c body env B = .nx env B := mWhile_end h
theorem wh_turn {c : EnvM → Bag → Res Bool} {body : EnvM → Bag → SRes} {env e1 e2 : EnvM} {B B0 B1 B2 : Bag} (h : c env B = .ok true B0) (hb : body env B0 = .nx e1 B1) (h2 : mWhile c body e1 B1 = .nx e2 B2) : mWhile c body env B = .nx e2 B2 :=
  (mWhile_turn h hb (by rw [h2]; intro z; cases z)).trans h2
theorem neB {f : PD → Bool} {env : EnvM} {B : Bag} {x : PD} (h4 : mVar 4 env B = .ok x B) (h5 : mVar 5 env B = .ok x B) : mCmp neP (mIsi f (mVar 4)) (mIsi f (mVar 5)) env B = .ok false B :=
  r_cmp (r_isi h4) (r_isi h5) (by rw [neP_bool]; simp)
theorem s_ext {i : Nat} {m : EnvM → Bag → Res PD} {env : EnvM} {B B1 : Bag} {xs ys : List PD} (h : m env B = .ok (.list ys) B1) (he : env[i]? = some (some (.own xs))) (hl : xs.length + ys.length ≤ sizeLine) : mExt i m env B = .nx (env.set i (some (.own (xs ++ ys)))) B1 := by
  unfold mExt; rw [he]; simp only [h, Res.s, hl, if_true]
def kidsA : PD → List PD
  | .list xs => xs
  | .tuple xs => xs
  | _ => []
theorem nd_kids (x : PD) : nd x = 1 + nds (kidsA x) := by cases x <;> simp [nd, kidsA, nds]
theorem okA_kids {x : PD} (h : okA x = true) : okAs (kidsA x) = true := by cases x <;> first | exact h | rfl
theorem isSeqB_is (x : PD) : (isTupB x || isListB x) = isSeqB x := by cases x <;> rfl
abbrev alE (a b : Option SV) (ow : List PD) (k : Nat) (o4 o5 : Option SV) : EnvM := [a, b, some (.own ow), some (.d (.int (k : Int))), o4, o5]
theorem alB_turn {x : PD} {done r : List PD} {a b : Option SV} {o4 o5 : Option SV} {B : Bag} (h : okA x = true) (hl : done.length + nd x + nds r ≤ sizeLine) :
    alB (alE a b (done ++ dupA x :: r.map dupA) done.length o4 o5) B = .nx (alE a b ((done ++ [dupA x]) ++ (r ++ kidsA x).map dupA) (done ++ [dupA x]).length (some (.d x)) (some (.d x))) B := by
  refine s_seq (B1 := B) (e1 := alE a b (done ++ dupA x :: r.map dupA) done.length (some (.d x)) (some (.d x))) ?_ ?_
  · refine s_set (x := dupA x) (B1 := B) ?_ rfl
    have e : atI (done ++ dupA x :: r.map dupA) (done.length : Int) = some (dupA x) := atI_nat' (by simp)
    show (match atI (done ++ dupA x :: r.map dupA) (done.length : Int) with | some z => Res.ok z B | none => .bad) = _
    rw [e]
  refine s_seq (B1 := B) (e1 := alE a b (done ++ dupA x :: r.map dupA) (done ++ [dupA x]).length (some (.d x)) (some (.d x))) ?_ ?_
  · show SRes.nx [a, b, _, some (.d (.int ((done.length : Int) + 1))), _, _] B = _
    have e : ((done.length : Int) + 1) = ((done ++ [dupA x]).length : Int) := by simp
    rw [e]
  refine s_seq (s_ifF (r_orF (neB (x := x) rfl rfl) (neB (x := x) rfl rfl)) s_skip) ?_
  refine s_seq (s_ifF (r_cmp (r_isi2 (r_var (x := x) rfl)) (r_isi2 (r_var (x := x) rfl)) (by rw [neP_bool]; simp)) s_skip) ?_
  have lk : (done ++ dupA x :: r.map dupA).length + ((kidsA x).map dupA).length ≤ sizeLine := by
    have := nd_kids x; have := len_nds r; have := len_nds (kidsA x)
    simp only [List.length_append, List.length_cons, List.length_map]; omega
  by_cases hs : isSeqB x = true
  · have fin : (unD [.d x, .d x]).bind zipP = some (.list ((kidsA x).map dupA)) ∧ ∃ n : Int, (unD [.d x]).bind lenP = some (.int n) := by
      cases x with
      | list xs => exact ⟨by show (if xs.length = xs.length then _ else _) = _; rw [if_pos rfl, zip_dup]; rfl, _, rfl⟩
      | tuple xs => exact ⟨by show (if xs.length = xs.length then _ else _) = _; rw [if_pos rfl, zip_dup]; rfl, _, rfl⟩
      | _ => cases hs
    obtain ⟨hz, n, hn⟩ := fin
    refine s_ifT (r_truB (k := true) (by rw [← hs, ← isSeqB_is]; exact r_isi2 (r_var (x := x) rfl))) ?_
    refine s_seq (s_ifF (r_orF (neB (x := x) rfl rfl) (r_cmp (r_ca (r_cons (r_g (r_var (x := x) rfl)) r_nil) hn) (r_ca (r_cons (r_g (r_var (x := x) rfl)) r_nil) hn) (by rw [neP_int]; simp))) s_skip) ?_
    have e := s_ext (i := 2) (env := alE a b (done ++ dupA x :: r.map dupA) (done ++ [dupA x]).length (some (.d x)) (some (.d x))) (B := B) (m := mCa zipP (mCons (mG (mVar 4)) (mCons (mG (mVar 5)) mNil)))
      (r_ca (r_cons (r_g (r_var (x := x) rfl)) (r_cons (r_g (r_var (x := x) rfl)) r_nil)) hz) rfl lk
    rw [e]
    show SRes.nx (alE _ _ _ _ _ _) B = _
    have e2 : (done ++ dupA x :: r.map dupA) ++ (kidsA x).map dupA = (done ++ [dupA x]) ++ (r ++ kidsA x).map dupA := by simp
    rw [e2]
  · have hf : isSeqB x = false := by cases q : isSeqB x with | true => exact absurd q hs | false => rfl
    have hk : kidsA x = [] := by cases x <;> first | rfl | exact absurd rfl hs
    refine s_ifF (r_truB (k := false) (by rw [← hf, ← isSeqB_is]; exact r_isi2 (r_var (x := x) rfl))) ?_
    refine s_ifF (r_cmp (r_var (x := x) rfl) (r_var (x := x) rfl) (neP_self h hf)) ?_
    have e2 : done ++ dupA x :: r.map dupA = (done ++ [dupA x]) ++ (r ++ kidsA x).map dupA := by rw [hk]; simp
    rw [e2]
    exact s_skip
theorem al_turns : ∀ (n : Nat) (todo done : List PD) (a b o4 o5 : Option SV) (B : Bag), nds todo ≤ n → okAs todo = true → done.length + nds todo ≤ sizeLine →
    ∃ e2, mWhile alC alB (alE a b (done ++ todo.map dupA) done.length o4 o5) B = .nx e2 B
  | n, [], done, a, b, o4, o5, B, _, _, _ => ⟨_, wh_end (r_cmp (x := .int (done.length : Int)) (y := .int (done.length : Int)) rfl (by simp only [List.map_nil, List.append_nil]; rfl) (by rw [ltP_int]; simp))⟩
  | 0, x :: r, done, a, b, o4, o5, B, h, _, _ => absurd h (by have := nd_pos x; simp only [nds]; omega)
  | n + 1, x :: r, done, a, b, o4, o5, B, h, ho, hl => by
    simp only [okAs, Bool.and_eq_true] at ho
    simp only [nds] at h hl
    have hk := nd_kids x
    obtain ⟨e2, h2⟩ := al_turns n (r ++ kidsA x) (done ++ [dupA x]) a b (some (.d x)) (some (.d x)) B (by rw [nds_append]; omega) (by rw [okAs_append, ho.2, okA_kids ho.1]; rfl) (by rw [nds_append, List.length_append, List.length_singleton]; omega)
    exact ⟨e2, wh_turn (r_cmp (x := .int (done.length : Int)) (y := .int ((done ++ (x :: r).map dupA).length : Int)) rfl rfl (by rw [ltP_int]; simp; omega)) (alB_turn ho.1 (by omega)) h2⟩
theorem alike_self {d : PD} (h : okA d = true) (hl : nd d ≤ sizeLine) (B : Bag) : f__law_alike [.d d, .d d] B = .ok (.bool true) B := by
  unfold f__law_alike b__law_alike
  obtain ⟨e2, h2⟩ := al_turns (nd d) [d] [] (some (.d d)) (some (.d d)) none none B (by simp [nds]) (by simp [okAs, h]) (by simp [nds, hl])
  exact s_fn (s_seq (B1 := B) (e1 := alE (some (.d d)) (some (.d d)) [dupA d] 0 none none) rfl (s_seq h2 (s_ret rfl)))
end DL
set_option Elab.async false
set_option linter.all false
set_option maxRecDepth 100000
set_option maxHeartbeats 4000000
/-! QB: the draws. -/
namespace DL
open PySem L2
theorem mulAP_r {a b : Int} (h : -(2 ^ 64) < b ∧ b < 2 ^ 64) : mulAP (.int a) (.int b) = some (.int (a * b)) := by unfold mulAP gOr; rw [mulP_r h]
theorem mulAP_l {a b : Int} (h : -(2 ^ 64) < a ∧ a < 2 ^ 64) : mulAP (.int a) (.int b) = some (.int (a * b)) := by unfold mulAP gOr; rw [mulP_l h]
theorem cell_at (cells : List Nat) (k : Nat) (h : cells.length ≤ 63) : ∃ d, ∃ c : Nat, addP (.list (cutP (cells.map fun n : Nat => PyData.int (n : Int)) (some (k : Int)) none)) (.list [.int 0]) = some d ∧ ixP d (.int 0) = some (.int (c : Int)) := by
  have hl : (cutP (cells.map fun n : Nat => PyData.int (n : Int)) (some (k : Int)) none).length ≤ 63 := by
    unfold cutP
    rw [List.length_take, List.length_drop, List.length_map]
    omega
  have e : addP (.list (cutP (cells.map fun n : Nat => PyData.int (n : Int)) (some (k : Int)) none)) (.list [.int 0]) = some (.list (cutP (cells.map fun n : Nat => PyData.int (n : Int)) (some (k : Int)) none ++ [.int 0])) := by
    show (if _ then _ else _) = _
    rw [if_pos]
    rw [sizeLine_eq]
    show _ + 1 ≤ _
    omega
  suffices hh : ∃ c : Nat, atI (cutP (cells.map fun n : Nat => PyData.int (n : Int)) (some (k : Int)) none ++ [.int 0]) 0 = some (.int (c : Int)) by
    obtain ⟨c, hc⟩ := hh
    exact ⟨_, c, e, hc⟩
  cases q : (cutP (cells.map fun n : Nat => PyData.int (n : Int)) (some (k : Int)) none) with
  | nil => exact ⟨0, atI0 _ _⟩
  | cons d r =>
    have hd : d ∈ cells.map fun n : Nat => PyData.int (n : Int) := by
      have : d ∈ cutP (cells.map fun n : Nat => PyData.int (n : Int)) (some (k : Int)) none := by rw [q]; exact List.mem_cons_self
      exact List.mem_of_mem_drop (List.mem_of_mem_take this)
    obtain ⟨c, _, e⟩ := List.mem_map.mp hd
    exact ⟨c, by rw [← e]; exact atI0 _ _⟩
theorem pw18 : powP (.int 10) (.int 18) = some (.int (10 ^ 18)) := rfl
def tkA : EnvM → Bag → SRes := (mIf (mCmp eqP (mBagIx 0 0) (mC (.int 0))) (mSeq (mSet (mgName 2) (mOp ixP (mOp addP (mSl (mBagIx 0 3) (mPart (mBagIx 0 2)) mNoPart) (mLst (mCons (mG (mC (.int 0))) mNil))) (mC (.int 0))))
  (mSeq (mBagAug 0 2 1)
  (mSeq (mIf (mCmp geP (mVar 2) (mOp powP (mC (.int 10)) (mC (.int 18)))) (mBagSet 0 0 (mVar 2)) mSkip)
  (mSeq (mSet (mgName 3) (mOp addP (mOp addP (mOp mulAP (mBagIx 0 1) (mC (.int 48271))) (mOp modP (mCa intP (mCons (mG (mVar 2)) mNil)) (mC (.int 2147483647)))) (mOp mulAP (mC (.int 7919)) (mBagIx 0 2))))
  (mBagSet 0 1 (mOp modP (mCa intP (mCons (mG (mVar 3)) mNil)) (mC (.int 2147483647)))))))) mSkip)
def tkB : EnvM → Bag → SRes := (mSeq (mIf (mCmp gtP (mBagIx 0 0) (mC (.int 0))) (mSeq (mSet (mgName 4) (mOp modP (mCa intP (mCons (mG (mBagIx 0 0)) mNil)) (mVar 1)))
  (mSeq (mBagSet 0 0 (mOp fdivP (mCa intP (mCons (mG (mBagIx 0 0)) mNil)) (mVar 1)))
  (mRet (mVar 4)))) mSkip)
  (mSeq (mSet (mgName 5) (mOp modP (mCa intP (mCons (mG (mOp mulAP (mOp addP (mBagIx 0 1) (mC (.int 1))) (mC (.int 39373)))) mNil)) (mC (.int 1000000007))))
  (mSeq (mSet (mgName 6) (mOp modP (mCa intP (mCons (mG (mOp mulAP (mOp modP (mCa intP (mCons (mG (mOp mulAP (mVar 5) (mVar 5))) mNil)) (mC (.int 998244353))) (mC (.int 30011)))) mNil)) (mC (.int 998244353))))
  (mRet (mOp modP (mCa intP (mCons (mG (mOp fdivP (mVar 6) (mC (.int 7)))) mNil)) (mVar 1))))))
theorem tkB_ok (n : Int) (h1 : 1 ≤ n) (h2 : n < 1073741824) (s0 s1 s2 : Nat) (cells : List Nat) (o2 o3 : Option SV) : ∃ r B', tkB [some .bag, some (.d (.int n)), o2, o3, none, none, none] ⟨s0, s1, s2, cells⟩ = .ret (.int r) B' ∧ 0 ≤ r ∧ r < n ∧ B'.cells = cells := by
  unfold tkB
  have hn : 0 < n := by omega
  by_cases h0 : 0 < s0
  · have hp : gtP (.int (s0 : Int)) (.int 0) = some true := by rw [gtP_int, decide_eq_true (by omega)]
    have hd : 0 ≤ (s0 : Int) / n := Int.ediv_nonneg (by omega) (by omega)
    have hq := fdivP_pos (a := (s0 : Int)) hn h2
    refine ⟨?r0, ?B0, ?h0, ?p0, ?q0, ?c0⟩
    case h0 =>
      refine s_seqR (s_ifT (by repeat' first | with_reducible assumption | with_reducible exact r_c | with_reducible exact r_noPart | with_reducible exact r_nil | with_reducible exact s_skip | with_reducible apply r_var | with_reducible apply r_bag | with_reducible apply r_op | with_reducible apply r_cmp | with_reducible apply r_b | with_reducible apply r_isi | with_reducible apply r_isi2 | with_reducible apply r_neg | with_reducible apply r_g | with_reducible apply r_cons | with_reducible apply r_tup | with_reducible apply r_lst | with_reducible apply r_ca | with_reducible apply r_bagIx | with_reducible apply r_sl | with_reducible apply r_part | with_reducible apply r_not | with_reducible apply r_rev | with_reducible apply r_seqT | with_reducible apply s_set | with_reducible apply s_par | with_reducible apply s_ret | with_reducible apply s_bagSet | with_reducible apply s_bagAug | with_reducible exact addP_int _ _ | with_reducible exact subP_int _ _ | with_reducible exact eqP_int _ _ | with_reducible exact neP_int _ _ | with_reducible exact ltP_int _ _ | with_reducible exact leP_int _ _ | with_reducible exact gtP_int _ _ | with_reducible exact geP_int _ _ | with_reducible exact intP_int _ | with_reducible exact absP_int _ | with_reducible exact modP_pos (by first | assumption | decide) | with_reducible exact mulP_r (by decide) | with_reducible exact mulP_l (by decide) | with_reducible exact mulAP_r (by decide) | with_reducible exact mulAP_l (by decide) | exact rfl) ?_)
      refine s_seq (by repeat' first | with_reducible assumption | with_reducible exact r_c | with_reducible exact r_noPart | with_reducible exact r_nil | with_reducible exact s_skip | with_reducible apply r_var | with_reducible apply r_bag | with_reducible apply r_op | with_reducible apply r_cmp | with_reducible apply r_b | with_reducible apply r_isi | with_reducible apply r_isi2 | with_reducible apply r_neg | with_reducible apply r_g | with_reducible apply r_cons | with_reducible apply r_tup | with_reducible apply r_lst | with_reducible apply r_ca | with_reducible apply r_bagIx | with_reducible apply r_sl | with_reducible apply r_part | with_reducible apply r_not | with_reducible apply r_rev | with_reducible apply r_seqT | with_reducible apply s_set | with_reducible apply s_par | with_reducible apply s_ret | with_reducible apply s_bagSet | with_reducible apply s_bagAug | with_reducible exact addP_int _ _ | with_reducible exact subP_int _ _ | with_reducible exact eqP_int _ _ | with_reducible exact neP_int _ _ | with_reducible exact ltP_int _ _ | with_reducible exact leP_int _ _ | with_reducible exact gtP_int _ _ | with_reducible exact geP_int _ _ | with_reducible exact intP_int _ | with_reducible exact absP_int _ | with_reducible exact modP_pos (by first | assumption | decide) | with_reducible exact mulP_r (by decide) | with_reducible exact mulP_l (by decide) | with_reducible exact mulAP_r (by decide) | with_reducible exact mulAP_l (by decide) | exact rfl) (s_seq (by repeat' first | with_reducible assumption | with_reducible exact r_c | with_reducible exact r_noPart | with_reducible exact r_nil | with_reducible exact s_skip | with_reducible apply r_var | with_reducible apply r_bag | with_reducible apply r_op | with_reducible apply r_cmp | with_reducible apply r_b | with_reducible apply r_isi | with_reducible apply r_isi2 | with_reducible apply r_neg | with_reducible apply r_g | with_reducible apply r_cons | with_reducible apply r_tup | with_reducible apply r_lst | with_reducible apply r_ca | with_reducible apply r_bagIx | with_reducible apply r_sl | with_reducible apply r_part | with_reducible apply r_not | with_reducible apply r_rev | with_reducible apply r_seqT | with_reducible apply s_set | with_reducible apply s_par | with_reducible apply s_ret | with_reducible apply s_bagSet | with_reducible apply s_bagAug | with_reducible exact addP_int _ _ | with_reducible exact subP_int _ _ | with_reducible exact eqP_int _ _ | with_reducible exact neP_int _ _ | with_reducible exact ltP_int _ _ | with_reducible exact leP_int _ _ | with_reducible exact gtP_int _ _ | with_reducible exact geP_int _ _ | with_reducible exact intP_int _ | with_reducible exact absP_int _ | with_reducible exact modP_pos (by first | assumption | decide) | with_reducible exact mulP_r (by decide) | with_reducible exact mulP_l (by decide) | with_reducible exact mulAP_r (by decide) | with_reducible exact mulAP_l (by decide) | exact rfl) (s_ret (by repeat' first | with_reducible assumption | with_reducible exact r_c | with_reducible exact r_noPart | with_reducible exact r_nil | with_reducible exact s_skip | with_reducible apply r_var | with_reducible apply r_bag | with_reducible apply r_op | with_reducible apply r_cmp | with_reducible apply r_b | with_reducible apply r_isi | with_reducible apply r_isi2 | with_reducible apply r_neg | with_reducible apply r_g | with_reducible apply r_cons | with_reducible apply r_tup | with_reducible apply r_lst | with_reducible apply r_ca | with_reducible apply r_bagIx | with_reducible apply r_sl | with_reducible apply r_part | with_reducible apply r_not | with_reducible apply r_rev | with_reducible apply r_seqT | with_reducible apply s_set | with_reducible apply s_par | with_reducible apply s_ret | with_reducible apply s_bagSet | with_reducible apply s_bagAug | with_reducible exact addP_int _ _ | with_reducible exact subP_int _ _ | with_reducible exact eqP_int _ _ | with_reducible exact neP_int _ _ | with_reducible exact ltP_int _ _ | with_reducible exact leP_int _ _ | with_reducible exact gtP_int _ _ | with_reducible exact geP_int _ _ | with_reducible exact intP_int _ | with_reducible exact absP_int _ | with_reducible exact modP_pos (by first | assumption | decide) | with_reducible exact mulP_r (by decide) | with_reducible exact mulP_l (by decide) | with_reducible exact mulAP_r (by decide) | with_reducible exact mulAP_l (by decide) | exact rfl)))
    case p0 => exact Int.emod_nonneg _ (by omega)
    case q0 => exact Int.emod_lt_of_pos _ (by omega)
    case c0 => rfl
  · have hp : gtP (.int (s0 : Int)) (.int 0) = some false := by rw [gtP_int, decide_eq_false (by omega)]
    have m1 : ∀ x : Int, mulAP (.int (x % 1000000007)) (.int (x % 1000000007)) = some (.int ((x % 1000000007) * (x % 1000000007))) := fun x => mulAP_l ⟨by omega, by omega⟩
    have m7 : ∀ x : Int, fdivP (.int x) (.int 7) = some (.int (x / 7)) := fun x => fdivP_pos (by decide) (by decide)
    refine ⟨?r1, ?B1, ?h1, ?p1, ?q1, ?c1⟩
    case h1 =>
      refine s_seq (s_ifF (by repeat' first | with_reducible assumption | with_reducible exact r_c | with_reducible exact r_noPart | with_reducible exact r_nil | with_reducible exact s_skip | with_reducible apply r_var | with_reducible apply r_bag | with_reducible apply r_op | with_reducible apply r_cmp | with_reducible apply r_b | with_reducible apply r_isi | with_reducible apply r_isi2 | with_reducible apply r_neg | with_reducible apply r_g | with_reducible apply r_cons | with_reducible apply r_tup | with_reducible apply r_lst | with_reducible apply r_ca | with_reducible apply r_bagIx | with_reducible apply r_sl | with_reducible apply r_part | with_reducible apply r_not | with_reducible apply r_rev | with_reducible apply r_seqT | with_reducible apply s_set | with_reducible apply s_par | with_reducible apply s_ret | with_reducible apply s_bagSet | with_reducible apply s_bagAug | with_reducible exact addP_int _ _ | with_reducible exact subP_int _ _ | with_reducible exact eqP_int _ _ | with_reducible exact neP_int _ _ | with_reducible exact ltP_int _ _ | with_reducible exact leP_int _ _ | with_reducible exact gtP_int _ _ | with_reducible exact geP_int _ _ | with_reducible exact intP_int _ | with_reducible exact absP_int _ | with_reducible exact modP_pos (by first | assumption | decide) | with_reducible exact mulP_r (by decide) | with_reducible exact mulP_l (by decide) | with_reducible exact mulAP_r (by decide) | with_reducible exact mulAP_l (by decide) | exact rfl) s_skip) ?_
      refine s_seq (by repeat' first | with_reducible assumption | with_reducible exact r_c | with_reducible exact r_noPart | with_reducible exact r_nil | with_reducible exact s_skip | with_reducible apply r_var | with_reducible apply r_bag | with_reducible apply r_op | with_reducible apply r_cmp | with_reducible apply r_b | with_reducible apply r_isi | with_reducible apply r_isi2 | with_reducible apply r_neg | with_reducible apply r_g | with_reducible apply r_cons | with_reducible apply r_tup | with_reducible apply r_lst | with_reducible apply r_ca | with_reducible apply r_bagIx | with_reducible apply r_sl | with_reducible apply r_part | with_reducible apply r_not | with_reducible apply r_rev | with_reducible apply r_seqT | with_reducible apply s_set | with_reducible apply s_par | with_reducible apply s_ret | with_reducible apply s_bagSet | with_reducible apply s_bagAug | with_reducible exact addP_int _ _ | with_reducible exact subP_int _ _ | with_reducible exact eqP_int _ _ | with_reducible exact neP_int _ _ | with_reducible exact ltP_int _ _ | with_reducible exact leP_int _ _ | with_reducible exact gtP_int _ _ | with_reducible exact geP_int _ _ | with_reducible exact intP_int _ | with_reducible exact absP_int _ | with_reducible exact modP_pos (by first | assumption | decide) | with_reducible exact mulP_r (by decide) | with_reducible exact mulP_l (by decide) | with_reducible exact mulAP_r (by decide) | with_reducible exact mulAP_l (by decide) | exact rfl) (s_seq (by repeat' first | with_reducible assumption | with_reducible exact m1 _ | with_reducible exact r_c | with_reducible exact r_noPart | with_reducible exact r_nil | with_reducible exact s_skip | with_reducible apply r_var | with_reducible apply r_bag | with_reducible apply r_op | with_reducible apply r_cmp | with_reducible apply r_b | with_reducible apply r_isi | with_reducible apply r_isi2 | with_reducible apply r_neg | with_reducible apply r_g | with_reducible apply r_cons | with_reducible apply r_tup | with_reducible apply r_lst | with_reducible apply r_ca | with_reducible apply r_bagIx | with_reducible apply r_sl | with_reducible apply r_part | with_reducible apply r_not | with_reducible apply r_rev | with_reducible apply r_seqT | with_reducible apply s_set | with_reducible apply s_par | with_reducible apply s_ret | with_reducible apply s_bagSet | with_reducible apply s_bagAug | with_reducible exact addP_int _ _ | with_reducible exact subP_int _ _ | with_reducible exact eqP_int _ _ | with_reducible exact neP_int _ _ | with_reducible exact ltP_int _ _ | with_reducible exact leP_int _ _ | with_reducible exact gtP_int _ _ | with_reducible exact geP_int _ _ | with_reducible exact intP_int _ | with_reducible exact absP_int _ | with_reducible exact modP_pos (by first | assumption | decide) | with_reducible exact mulP_r (by decide) | with_reducible exact mulP_l (by decide) | with_reducible exact mulAP_r (by decide) | with_reducible exact mulAP_l (by decide) | exact rfl) (s_ret (by repeat' first | with_reducible assumption | with_reducible exact m7 _ | with_reducible exact r_c | with_reducible exact r_noPart | with_reducible exact r_nil | with_reducible exact s_skip | with_reducible apply r_var | with_reducible apply r_bag | with_reducible apply r_op | with_reducible apply r_cmp | with_reducible apply r_b | with_reducible apply r_isi | with_reducible apply r_isi2 | with_reducible apply r_neg | with_reducible apply r_g | with_reducible apply r_cons | with_reducible apply r_tup | with_reducible apply r_lst | with_reducible apply r_ca | with_reducible apply r_bagIx | with_reducible apply r_sl | with_reducible apply r_part | with_reducible apply r_not | with_reducible apply r_rev | with_reducible apply r_seqT | with_reducible apply s_set | with_reducible apply s_par | with_reducible apply s_ret | with_reducible apply s_bagSet | with_reducible apply s_bagAug | with_reducible exact addP_int _ _ | with_reducible exact subP_int _ _ | with_reducible exact eqP_int _ _ | with_reducible exact neP_int _ _ | with_reducible exact ltP_int _ _ | with_reducible exact leP_int _ _ | with_reducible exact gtP_int _ _ | with_reducible exact geP_int _ _ | with_reducible exact intP_int _ | with_reducible exact absP_int _ | with_reducible exact modP_pos (by first | assumption | decide) | with_reducible exact mulP_r (by decide) | with_reducible exact mulP_l (by decide) | with_reducible exact mulAP_r (by decide) | with_reducible exact mulAP_l (by decide) | exact rfl)))
    case p1 => exact Int.emod_nonneg _ (by omega)
    case q1 => exact Int.emod_lt_of_pos _ (by omega)
    case c1 => rfl
theorem tkA_ok (n : Int) (s0 s1 s2 : Nat) (cells : List Nat) (hc : cells.length ≤ 63) : ∃ o2 o3 s0' s1' s2', tkA [some .bag, some (.d (.int n)), none, none, none, none, none] ⟨s0, s1, s2, cells⟩ = .nx [some .bag, some (.d (.int n)), o2, o3, none, none, none] ⟨s0', s1', s2', cells⟩ := by
  unfold tkA
  by_cases h0 : s0 = 0
  · subst h0
    obtain ⟨d, c, ea, hcell⟩ := cell_at cells s2 hc
    have nn : ∀ x : Int, 0 ≤ x % 2147483647 := fun x => Int.emod_nonneg _ (by decide)
    have e0 : eqP (.int ((0 : Nat) : Int)) (.int 0) = some true := by rw [eqP_int]; rfl
    have sl : [PyData.int 0].length ≤ sizeLine := by decide
    have p18 := pw18
    by_cases hb : (10 : Int) ^ 18 ≤ (c : Int)
    · have hge : geP (.int (c : Int)) (.int (10 ^ 18)) = some true := by rw [geP_int, decide_eq_true hb]
      have h0c : 0 ≤ (c : Int) := by omega
      refine ⟨?o23, ?o33, ?a3, ?b3, ?c3, ?h3⟩
      case h3 =>
        refine s_ifT (by repeat' first | with_reducible assumption | with_reducible exact r_c | with_reducible exact r_noPart | with_reducible exact r_nil | with_reducible exact s_skip | with_reducible apply r_var | with_reducible apply r_bag | with_reducible apply r_op | with_reducible apply r_cmp | with_reducible apply r_b | with_reducible apply r_isi | with_reducible apply r_isi2 | with_reducible apply r_neg | with_reducible apply r_g | with_reducible apply r_cons | with_reducible apply r_tup | with_reducible apply r_lst | with_reducible apply r_ca | with_reducible apply r_bagIx | with_reducible apply r_sl | with_reducible apply r_part | with_reducible apply r_not | with_reducible apply r_rev | with_reducible apply r_seqT | with_reducible apply s_set | with_reducible apply s_par | with_reducible apply s_ret | with_reducible apply s_bagSet | with_reducible apply s_bagAug | with_reducible exact addP_int _ _ | with_reducible exact subP_int _ _ | with_reducible exact eqP_int _ _ | with_reducible exact neP_int _ _ | with_reducible exact ltP_int _ _ | with_reducible exact leP_int _ _ | with_reducible exact gtP_int _ _ | with_reducible exact geP_int _ _ | with_reducible exact intP_int _ | with_reducible exact absP_int _ | with_reducible exact modP_pos (by first | assumption | decide) | with_reducible exact mulP_r (by decide) | with_reducible exact mulP_l (by decide) | with_reducible exact mulAP_r (by decide) | with_reducible exact mulAP_l (by decide) | exact rfl) (s_seq (by repeat' first | with_reducible assumption | with_reducible exact r_c | with_reducible exact r_noPart | with_reducible exact r_nil | with_reducible exact s_skip | with_reducible apply r_var | with_reducible apply r_bag | with_reducible apply r_op | with_reducible apply r_cmp | with_reducible apply r_b | with_reducible apply r_isi | with_reducible apply r_isi2 | with_reducible apply r_neg | with_reducible apply r_g | with_reducible apply r_cons | with_reducible apply r_tup | with_reducible apply r_lst | with_reducible apply r_ca | with_reducible apply r_bagIx | with_reducible apply r_sl | with_reducible apply r_part | with_reducible apply r_not | with_reducible apply r_rev | with_reducible apply r_seqT | with_reducible apply s_set | with_reducible apply s_par | with_reducible apply s_ret | with_reducible apply s_bagSet | with_reducible apply s_bagAug | with_reducible exact addP_int _ _ | with_reducible exact subP_int _ _ | with_reducible exact eqP_int _ _ | with_reducible exact neP_int _ _ | with_reducible exact ltP_int _ _ | with_reducible exact leP_int _ _ | with_reducible exact gtP_int _ _ | with_reducible exact geP_int _ _ | with_reducible exact intP_int _ | with_reducible exact absP_int _ | with_reducible exact modP_pos (by first | assumption | decide) | with_reducible exact mulP_r (by decide) | with_reducible exact mulP_l (by decide) | with_reducible exact mulAP_r (by decide) | with_reducible exact mulAP_l (by decide) | exact rfl) (s_seq (by repeat' first | with_reducible assumption | with_reducible exact r_c | with_reducible exact r_noPart | with_reducible exact r_nil | with_reducible exact s_skip | with_reducible apply r_var | with_reducible apply r_bag | with_reducible apply r_op | with_reducible apply r_cmp | with_reducible apply r_b | with_reducible apply r_isi | with_reducible apply r_isi2 | with_reducible apply r_neg | with_reducible apply r_g | with_reducible apply r_cons | with_reducible apply r_tup | with_reducible apply r_lst | with_reducible apply r_ca | with_reducible apply r_bagIx | with_reducible apply r_sl | with_reducible apply r_part | with_reducible apply r_not | with_reducible apply r_rev | with_reducible apply r_seqT | with_reducible apply s_set | with_reducible apply s_par | with_reducible apply s_ret | with_reducible apply s_bagSet | with_reducible apply s_bagAug | with_reducible exact addP_int _ _ | with_reducible exact subP_int _ _ | with_reducible exact eqP_int _ _ | with_reducible exact neP_int _ _ | with_reducible exact ltP_int _ _ | with_reducible exact leP_int _ _ | with_reducible exact gtP_int _ _ | with_reducible exact geP_int _ _ | with_reducible exact intP_int _ | with_reducible exact absP_int _ | with_reducible exact modP_pos (by first | assumption | decide) | with_reducible exact mulP_r (by decide) | with_reducible exact mulP_l (by decide) | with_reducible exact mulAP_r (by decide) | with_reducible exact mulAP_l (by decide) | exact rfl) (s_seq (s_ifT (by repeat' first | with_reducible assumption | with_reducible exact r_c | with_reducible exact r_noPart | with_reducible exact r_nil | with_reducible exact s_skip | with_reducible apply r_var | with_reducible apply r_bag | with_reducible apply r_op | with_reducible apply r_cmp | with_reducible apply r_b | with_reducible apply r_isi | with_reducible apply r_isi2 | with_reducible apply r_neg | with_reducible apply r_g | with_reducible apply r_cons | with_reducible apply r_tup | with_reducible apply r_lst | with_reducible apply r_ca | with_reducible apply r_bagIx | with_reducible apply r_sl | with_reducible apply r_part | with_reducible apply r_not | with_reducible apply r_rev | with_reducible apply r_seqT | with_reducible apply s_set | with_reducible apply s_par | with_reducible apply s_ret | with_reducible apply s_bagSet | with_reducible apply s_bagAug | with_reducible exact addP_int _ _ | with_reducible exact subP_int _ _ | with_reducible exact eqP_int _ _ | with_reducible exact neP_int _ _ | with_reducible exact ltP_int _ _ | with_reducible exact leP_int _ _ | with_reducible exact gtP_int _ _ | with_reducible exact geP_int _ _ | with_reducible exact intP_int _ | with_reducible exact absP_int _ | with_reducible exact modP_pos (by first | assumption | decide) | with_reducible exact mulP_r (by decide) | with_reducible exact mulP_l (by decide) | with_reducible exact mulAP_r (by decide) | with_reducible exact mulAP_l (by decide) | exact rfl) (by repeat' first | with_reducible assumption | with_reducible exact r_c | with_reducible exact r_noPart | with_reducible exact r_nil | with_reducible exact s_skip | with_reducible apply r_var | with_reducible apply r_bag | with_reducible apply r_op | with_reducible apply r_cmp | with_reducible apply r_b | with_reducible apply r_isi | with_reducible apply r_isi2 | with_reducible apply r_neg | with_reducible apply r_g | with_reducible apply r_cons | with_reducible apply r_tup | with_reducible apply r_lst | with_reducible apply r_ca | with_reducible apply r_bagIx | with_reducible apply r_sl | with_reducible apply r_part | with_reducible apply r_not | with_reducible apply r_rev | with_reducible apply r_seqT | with_reducible apply s_set | with_reducible apply s_par | with_reducible apply s_ret | with_reducible apply s_bagSet | with_reducible apply s_bagAug | with_reducible exact addP_int _ _ | with_reducible exact subP_int _ _ | with_reducible exact eqP_int _ _ | with_reducible exact neP_int _ _ | with_reducible exact ltP_int _ _ | with_reducible exact leP_int _ _ | with_reducible exact gtP_int _ _ | with_reducible exact geP_int _ _ | with_reducible exact intP_int _ | with_reducible exact absP_int _ | with_reducible exact modP_pos (by first | assumption | decide) | with_reducible exact mulP_r (by decide) | with_reducible exact mulP_l (by decide) | with_reducible exact mulAP_r (by decide) | with_reducible exact mulAP_l (by decide) | exact rfl)) (s_seq (by repeat' first | with_reducible assumption | with_reducible exact r_c | with_reducible exact r_noPart | with_reducible exact r_nil | with_reducible exact s_skip | with_reducible apply r_var | with_reducible apply r_bag | with_reducible apply r_op | with_reducible apply r_cmp | with_reducible apply r_b | with_reducible apply r_isi | with_reducible apply r_isi2 | with_reducible apply r_neg | with_reducible apply r_g | with_reducible apply r_cons | with_reducible apply r_tup | with_reducible apply r_lst | with_reducible apply r_ca | with_reducible apply r_bagIx | with_reducible apply r_sl | with_reducible apply r_part | with_reducible apply r_not | with_reducible apply r_rev | with_reducible apply r_seqT | with_reducible apply s_set | with_reducible apply s_par | with_reducible apply s_ret | with_reducible apply s_bagSet | with_reducible apply s_bagAug | with_reducible exact addP_int _ _ | with_reducible exact subP_int _ _ | with_reducible exact eqP_int _ _ | with_reducible exact neP_int _ _ | with_reducible exact ltP_int _ _ | with_reducible exact leP_int _ _ | with_reducible exact gtP_int _ _ | with_reducible exact geP_int _ _ | with_reducible exact intP_int _ | with_reducible exact absP_int _ | with_reducible exact modP_pos (by first | assumption | decide) | with_reducible exact mulP_r (by decide) | with_reducible exact mulP_l (by decide) | with_reducible exact mulAP_r (by decide) | with_reducible exact mulAP_l (by decide) | exact rfl) (by repeat' first | with_reducible assumption | with_reducible exact nn _ | with_reducible exact r_c | with_reducible exact r_noPart | with_reducible exact r_nil | with_reducible exact s_skip | with_reducible apply r_var | with_reducible apply r_bag | with_reducible apply r_op | with_reducible apply r_cmp | with_reducible apply r_b | with_reducible apply r_isi | with_reducible apply r_isi2 | with_reducible apply r_neg | with_reducible apply r_g | with_reducible apply r_cons | with_reducible apply r_tup | with_reducible apply r_lst | with_reducible apply r_ca | with_reducible apply r_bagIx | with_reducible apply r_sl | with_reducible apply r_part | with_reducible apply r_not | with_reducible apply r_rev | with_reducible apply r_seqT | with_reducible apply s_set | with_reducible apply s_par | with_reducible apply s_ret | with_reducible apply s_bagSet | with_reducible apply s_bagAug | with_reducible exact addP_int _ _ | with_reducible exact subP_int _ _ | with_reducible exact eqP_int _ _ | with_reducible exact neP_int _ _ | with_reducible exact ltP_int _ _ | with_reducible exact leP_int _ _ | with_reducible exact gtP_int _ _ | with_reducible exact geP_int _ _ | with_reducible exact intP_int _ | with_reducible exact absP_int _ | with_reducible exact modP_pos (by first | assumption | decide) | with_reducible exact mulP_r (by decide) | with_reducible exact mulP_l (by decide) | with_reducible exact mulAP_r (by decide) | with_reducible exact mulAP_l (by decide) | exact rfl)))))
    · have hge : geP (.int (c : Int)) (.int (10 ^ 18)) = some false := by rw [geP_int, decide_eq_false hb]
      refine ⟨?o25, ?o35, ?a5, ?b5, ?c5, ?h5⟩
      case h5 =>
        refine s_ifT (by repeat' first | with_reducible assumption | with_reducible exact r_c | with_reducible exact r_noPart | with_reducible exact r_nil | with_reducible exact s_skip | with_reducible apply r_var | with_reducible apply r_bag | with_reducible apply r_op | with_reducible apply r_cmp | with_reducible apply r_b | with_reducible apply r_isi | with_reducible apply r_isi2 | with_reducible apply r_neg | with_reducible apply r_g | with_reducible apply r_cons | with_reducible apply r_tup | with_reducible apply r_lst | with_reducible apply r_ca | with_reducible apply r_bagIx | with_reducible apply r_sl | with_reducible apply r_part | with_reducible apply r_not | with_reducible apply r_rev | with_reducible apply r_seqT | with_reducible apply s_set | with_reducible apply s_par | with_reducible apply s_ret | with_reducible apply s_bagSet | with_reducible apply s_bagAug | with_reducible exact addP_int _ _ | with_reducible exact subP_int _ _ | with_reducible exact eqP_int _ _ | with_reducible exact neP_int _ _ | with_reducible exact ltP_int _ _ | with_reducible exact leP_int _ _ | with_reducible exact gtP_int _ _ | with_reducible exact geP_int _ _ | with_reducible exact intP_int _ | with_reducible exact absP_int _ | with_reducible exact modP_pos (by first | assumption | decide) | with_reducible exact mulP_r (by decide) | with_reducible exact mulP_l (by decide) | with_reducible exact mulAP_r (by decide) | with_reducible exact mulAP_l (by decide) | exact rfl) (s_seq (by repeat' first | with_reducible assumption | with_reducible exact r_c | with_reducible exact r_noPart | with_reducible exact r_nil | with_reducible exact s_skip | with_reducible apply r_var | with_reducible apply r_bag | with_reducible apply r_op | with_reducible apply r_cmp | with_reducible apply r_b | with_reducible apply r_isi | with_reducible apply r_isi2 | with_reducible apply r_neg | with_reducible apply r_g | with_reducible apply r_cons | with_reducible apply r_tup | with_reducible apply r_lst | with_reducible apply r_ca | with_reducible apply r_bagIx | with_reducible apply r_sl | with_reducible apply r_part | with_reducible apply r_not | with_reducible apply r_rev | with_reducible apply r_seqT | with_reducible apply s_set | with_reducible apply s_par | with_reducible apply s_ret | with_reducible apply s_bagSet | with_reducible apply s_bagAug | with_reducible exact addP_int _ _ | with_reducible exact subP_int _ _ | with_reducible exact eqP_int _ _ | with_reducible exact neP_int _ _ | with_reducible exact ltP_int _ _ | with_reducible exact leP_int _ _ | with_reducible exact gtP_int _ _ | with_reducible exact geP_int _ _ | with_reducible exact intP_int _ | with_reducible exact absP_int _ | with_reducible exact modP_pos (by first | assumption | decide) | with_reducible exact mulP_r (by decide) | with_reducible exact mulP_l (by decide) | with_reducible exact mulAP_r (by decide) | with_reducible exact mulAP_l (by decide) | exact rfl) (s_seq (by repeat' first | with_reducible assumption | with_reducible exact r_c | with_reducible exact r_noPart | with_reducible exact r_nil | with_reducible exact s_skip | with_reducible apply r_var | with_reducible apply r_bag | with_reducible apply r_op | with_reducible apply r_cmp | with_reducible apply r_b | with_reducible apply r_isi | with_reducible apply r_isi2 | with_reducible apply r_neg | with_reducible apply r_g | with_reducible apply r_cons | with_reducible apply r_tup | with_reducible apply r_lst | with_reducible apply r_ca | with_reducible apply r_bagIx | with_reducible apply r_sl | with_reducible apply r_part | with_reducible apply r_not | with_reducible apply r_rev | with_reducible apply r_seqT | with_reducible apply s_set | with_reducible apply s_par | with_reducible apply s_ret | with_reducible apply s_bagSet | with_reducible apply s_bagAug | with_reducible exact addP_int _ _ | with_reducible exact subP_int _ _ | with_reducible exact eqP_int _ _ | with_reducible exact neP_int _ _ | with_reducible exact ltP_int _ _ | with_reducible exact leP_int _ _ | with_reducible exact gtP_int _ _ | with_reducible exact geP_int _ _ | with_reducible exact intP_int _ | with_reducible exact absP_int _ | with_reducible exact modP_pos (by first | assumption | decide) | with_reducible exact mulP_r (by decide) | with_reducible exact mulP_l (by decide) | with_reducible exact mulAP_r (by decide) | with_reducible exact mulAP_l (by decide) | exact rfl) (s_seq (s_ifF (by repeat' first | with_reducible assumption | with_reducible exact r_c | with_reducible exact r_noPart | with_reducible exact r_nil | with_reducible exact s_skip | with_reducible apply r_var | with_reducible apply r_bag | with_reducible apply r_op | with_reducible apply r_cmp | with_reducible apply r_b | with_reducible apply r_isi | with_reducible apply r_isi2 | with_reducible apply r_neg | with_reducible apply r_g | with_reducible apply r_cons | with_reducible apply r_tup | with_reducible apply r_lst | with_reducible apply r_ca | with_reducible apply r_bagIx | with_reducible apply r_sl | with_reducible apply r_part | with_reducible apply r_not | with_reducible apply r_rev | with_reducible apply r_seqT | with_reducible apply s_set | with_reducible apply s_par | with_reducible apply s_ret | with_reducible apply s_bagSet | with_reducible apply s_bagAug | with_reducible exact addP_int _ _ | with_reducible exact subP_int _ _ | with_reducible exact eqP_int _ _ | with_reducible exact neP_int _ _ | with_reducible exact ltP_int _ _ | with_reducible exact leP_int _ _ | with_reducible exact gtP_int _ _ | with_reducible exact geP_int _ _ | with_reducible exact intP_int _ | with_reducible exact absP_int _ | with_reducible exact modP_pos (by first | assumption | decide) | with_reducible exact mulP_r (by decide) | with_reducible exact mulP_l (by decide) | with_reducible exact mulAP_r (by decide) | with_reducible exact mulAP_l (by decide) | exact rfl) s_skip) (s_seq (by repeat' first | with_reducible assumption | with_reducible exact r_c | with_reducible exact r_noPart | with_reducible exact r_nil | with_reducible exact s_skip | with_reducible apply r_var | with_reducible apply r_bag | with_reducible apply r_op | with_reducible apply r_cmp | with_reducible apply r_b | with_reducible apply r_isi | with_reducible apply r_isi2 | with_reducible apply r_neg | with_reducible apply r_g | with_reducible apply r_cons | with_reducible apply r_tup | with_reducible apply r_lst | with_reducible apply r_ca | with_reducible apply r_bagIx | with_reducible apply r_sl | with_reducible apply r_part | with_reducible apply r_not | with_reducible apply r_rev | with_reducible apply r_seqT | with_reducible apply s_set | with_reducible apply s_par | with_reducible apply s_ret | with_reducible apply s_bagSet | with_reducible apply s_bagAug | with_reducible exact addP_int _ _ | with_reducible exact subP_int _ _ | with_reducible exact eqP_int _ _ | with_reducible exact neP_int _ _ | with_reducible exact ltP_int _ _ | with_reducible exact leP_int _ _ | with_reducible exact gtP_int _ _ | with_reducible exact geP_int _ _ | with_reducible exact intP_int _ | with_reducible exact absP_int _ | with_reducible exact modP_pos (by first | assumption | decide) | with_reducible exact mulP_r (by decide) | with_reducible exact mulP_l (by decide) | with_reducible exact mulAP_r (by decide) | with_reducible exact mulAP_l (by decide) | exact rfl) (by repeat' first | with_reducible assumption | with_reducible exact nn _ | with_reducible exact r_c | with_reducible exact r_noPart | with_reducible exact r_nil | with_reducible exact s_skip | with_reducible apply r_var | with_reducible apply r_bag | with_reducible apply r_op | with_reducible apply r_cmp | with_reducible apply r_b | with_reducible apply r_isi | with_reducible apply r_isi2 | with_reducible apply r_neg | with_reducible apply r_g | with_reducible apply r_cons | with_reducible apply r_tup | with_reducible apply r_lst | with_reducible apply r_ca | with_reducible apply r_bagIx | with_reducible apply r_sl | with_reducible apply r_part | with_reducible apply r_not | with_reducible apply r_rev | with_reducible apply r_seqT | with_reducible apply s_set | with_reducible apply s_par | with_reducible apply s_ret | with_reducible apply s_bagSet | with_reducible apply s_bagAug | with_reducible exact addP_int _ _ | with_reducible exact subP_int _ _ | with_reducible exact eqP_int _ _ | with_reducible exact neP_int _ _ | with_reducible exact ltP_int _ _ | with_reducible exact leP_int _ _ | with_reducible exact gtP_int _ _ | with_reducible exact geP_int _ _ | with_reducible exact intP_int _ | with_reducible exact absP_int _ | with_reducible exact modP_pos (by first | assumption | decide) | with_reducible exact mulP_r (by decide) | with_reducible exact mulP_l (by decide) | with_reducible exact mulAP_r (by decide) | with_reducible exact mulAP_l (by decide) | exact rfl)))))
  · have hp : eqP (.int (s0 : Int)) (.int 0) = some false := by rw [eqP_int, decide_eq_false (by omega)]
    exact ⟨none, none, s0, s1, s2, s_ifF (by repeat' first | with_reducible assumption | with_reducible exact r_c | with_reducible exact r_noPart | with_reducible exact r_nil | with_reducible exact s_skip | with_reducible apply r_var | with_reducible apply r_bag | with_reducible apply r_op | with_reducible apply r_cmp | with_reducible apply r_b | with_reducible apply r_isi | with_reducible apply r_isi2 | with_reducible apply r_neg | with_reducible apply r_g | with_reducible apply r_cons | with_reducible apply r_tup | with_reducible apply r_lst | with_reducible apply r_ca | with_reducible apply r_bagIx | with_reducible apply r_sl | with_reducible apply r_part | with_reducible apply r_not | with_reducible apply r_rev | with_reducible apply r_seqT | with_reducible apply s_set | with_reducible apply s_par | with_reducible apply s_ret | with_reducible apply s_bagSet | with_reducible apply s_bagAug | with_reducible exact addP_int _ _ | with_reducible exact subP_int _ _ | with_reducible exact eqP_int _ _ | with_reducible exact neP_int _ _ | with_reducible exact ltP_int _ _ | with_reducible exact leP_int _ _ | with_reducible exact gtP_int _ _ | with_reducible exact geP_int _ _ | with_reducible exact intP_int _ | with_reducible exact absP_int _ | with_reducible exact modP_pos (by first | assumption | decide) | with_reducible exact mulP_r (by decide) | with_reducible exact mulP_l (by decide) | with_reducible exact mulAP_r (by decide) | with_reducible exact mulAP_l (by decide) | exact rfl) s_skip⟩
theorem take_ok (B : Bag) (n : Int) (h1 : 1 ≤ n) (h2 : n < 1073741824) (hc : B.cells.length ≤ 63) : ∃ r B', f__law_take [.bag, .d (.int n)] B = .ok (.int r) B' ∧ 0 ≤ r ∧ r < n ∧ B'.cells.length ≤ 63 := by
  obtain ⟨s0, s1, s2, cells⟩ := B
  have hc : cells.length ≤ 63 := hc
  obtain ⟨o2, o3, a0, a1, a2, e1⟩ := tkA_ok n s0 s1 s2 cells hc
  obtain ⟨r, B', e2, p1, p2, p3⟩ := tkB_ok n h1 h2 a0 a1 a2 cells o2 o3
  exact ⟨r, B', s_fn (show mSeq tkA tkB [some .bag, some (.d (.int n)), none, none, none, none, none] ⟨s0, s1, s2, cells⟩ = _ from s_seq e1 e2), p1, p2, by rw [p3]; exact hc⟩
theorem len_le {α : Type} {ds : List α} (h : ds.length ≤ 1000) : ds.length ≤ sizeLine := Nat.le_trans h (by decide)
theorem addP_list {xs ys : List PD} (h : xs.length + ys.length ≤ 1000) : addP (.list xs) (.list ys) = some (.list (xs ++ ys)) := by
  show (if _ then _ else _) = _
  rw [if_pos (Nat.le_trans h (by decide))]
theorem addP_tuple {xs ys : List PD} (h : xs.length + ys.length ≤ 1000) : addP (.tuple xs) (.tuple ys) = some (.tuple (xs ++ ys)) := by
  show (if _ then _ else _) = _
  rw [if_pos (Nat.le_trans h (by decide))]
theorem lenP_list (xs : List PD) : (unD [.d (.list xs)]).bind lenP = some (.int (xs.length : Int)) := rfl
theorem lenP_tuple (xs : List PD) : (unD [.d (.tuple xs)]).bind lenP = some (.int (xs.length : Int)) := rfl
theorem some_ok (ds : List PD) (h0 : 1 ≤ ds.length) (hl : ds.length ≤ 1000) (B : Bag) (hc : B.cells.length ≤ 63) : ∃ d B', f__law_some [.bag, .d (.list ds)] B = .ok d B' ∧ d ∈ ds ∧ B'.cells.length ≤ 63 := by
  obtain ⟨r, B', e, p1, p2, p3⟩ := take_ok B (ds.length : Int) (by omega) (by omega) hc
  have hk : r.toNat < ds.length := by omega
  have er : r = ((r.toNat : Nat) : Int) := by omega
  have ea : ixP (.list ds) (.int r) = some ds[r.toNat] := by
    have q := atI_nat' (List.getElem?_eq_getElem hk)
    rw [← er] at q
    exact q
  refine ⟨ds[r.toNat], B', ?_, List.getElem_mem hk, p3⟩
  unfold f__law_some b__law_some
  exact s_fn (s_ret (r_op (r_var rfl) (r_call (r_cons (r_bag rfl) (r_cons (r_g (r_ca (r_cons (r_g (r_var rfl)) r_nil) rfl)) r_nil)) rfl e) ea))
end DL
set_option Elab.async false
set_option linter.all false
set_option maxRecDepth 100000
set_option maxHeartbeats 4000000
/-! USP: draws as typed functions. -/
namespace TL
open PySem L2 DL
open Rn (rn up)
/-! draws -/
noncomputable def tkD (n : Int) : D Int := chD f__law_take [.bag, .d (eInt n)] eInt (fun r => 0 ≤ r ∧ r < n)
theorem tkD_ok (n : Int) : FJ f__law_take [.bag, .d (eInt n)] (tkD n) eInt := FJ.chD _ _ _ _
theorem tkD_tot {n : Int} (h1 : 1 ≤ n) (h2 : n < 1073741824) : Tot (tkD n) (fun r => 0 ≤ r ∧ r < n) := Tot.chD fun B j => by
  obtain ⟨r, B', e, h, h', j'⟩ := take_ok B n h1 h2 j
  exact ⟨r, B', e, ⟨h, h'⟩, j'⟩
section
variable {α : Type} {e : α → PD}
noncomputable def smD (e : α → PD) (xs : List α) : D α := chD f__law_some [.bag, .d (eL e xs)] e (fun x => x ∈ xs)
theorem smD_ok (xs : List α) : FJ f__law_some [.bag, .d (eL e xs)] (smD e xs) e := FJ.chD _ _ _ _
theorem smD_tot {xs : List α} (h1 : 1 ≤ xs.length) (h2 : xs.length ≤ 1000) : Tot (smD e xs) (fun x => x ∈ xs) := Tot.chD fun B j => by
  obtain ⟨r, B1, e1, h, h', j1⟩ := take_ok B ((xs.map e).length : Int) (by rw [List.length_map]; omega) (by rw [List.length_map]; omega) j
  rw [List.length_map] at h'
  have hk : r.toNat < xs.length := by omega
  have er : r = ((r.toNat : Nat) : Int) := by omega
  refine ⟨xs[r.toNat], B1, ?_, List.getElem_mem hk, j1⟩
  have ea : ixP (.list (xs.map e)) (.int r) = some (e xs[r.toNat]) := by
    have q := atI_nat' (xs := xs.map e) (j := r.toNat) (d := e xs[r.toNat]) (by rw [List.getElem?_map, List.getElem?_eq_getElem hk]; rfl)
    rw [← er] at q
    exact q
  unfold f__law_some b__law_some
  exact s_fn (s_ret (r_op (r_var rfl) (r_call (r_cons (r_bag rfl) (r_cons (r_g (r_ca (r_cons (r_g (r_var rfl)) r_nil) rfl)) r_nil)) rfl e1) ea))
end
end TL
set_option Elab.async false
set_option linter.all false
set_option maxRecDepth 100000
set_option maxHeartbeats 4000000
namespace TL
open PySem L2 DL
open Rn (rn up)
noncomputable def t__law_integer_b1  (x9 : (Int × (List Int))) : Option (Int × (List Int)) :=
  ((((pure (128) : Option Int) >>= fun x10 => (up (modG x9.1 128) : Option Int) >>= fun x11 => (pure (x10 + x11) : Option Int)) >>= fun x12 => (up (gd (x9.2.length < sizeLine) (x9.2 ++ [x12])) : Option (List Int))) >>= fun (x13 : (List Int)) => ((up (fdivG x9.1 128) : Option Int) >>= fun (x15 : Int) => (pure (x15, x13) : Option (Int × (List Int)))))
theorem t__law_integer_b1_ok  (x9 : (Int × (List Int))) : NJ 2 [(0, some (.d (eInt x9.1))), (1, some (.own (List.map eInt x9.2)))] (mSeq (mApp 1 (mOp addP (mC (.int 128)) (mOp modP (mCa intP (mCons (mG (mVar 0)) mNil)) (mC (.int 128))))) (mSet (mgName 0) (mOp fdivP (mCa intP (mCons (mG (mVar 0)) mNil)) (mC (.int 128))))) (t__law_integer_b1  x9 ) (fun (x9 : (Int × (List Int))) => [(0, some (.d (eInt x9.1))), (1, some (.own (List.map eInt x9.2)))]) := by
  unfold t__law_integer_b1 
  exact (n_seq (n_app (e := eInt) (xs := x9.2) rfl (j_opT (F := fun (x10 : Int) (x11 : Int) => x10 + x11) (ec := eInt) (T.j (M := Option) (e := eInt) (a := 128) (t_c (d := eInt 128))) (j_opP (M := Option) (F := modG x9.1 128) (ec := eInt) (t_ca (z := eInt x9.1) (t_cons (t_g (t_var (x := eInt x9.1) rfl)) t_nil) (int_int x9.1)) (t_c (d := eInt 128)) (fun c h => mod_int x9.1 128 c h)) (fun x y => add_int x y)) (by decide)) (fun x13 => (n_end (F := fun (x15 : Int) => (x15, x13)) (n_set (j_opP (M := Option) (F := fdivG x9.1 128) (ec := eInt) (t_ca (z := eInt x9.1) (t_cons (t_g (t_var (x := eInt x9.1) rfl)) t_nil) (int_int x9.1)) (t_c (d := eInt 128)) (fun c h => fdiv_int x9.1 128 c h)) (fun x14 => (tg_name (by decide)))) (fun x15 => (Sb.cons rfl (Sb.cons rfl Sb.nil))))))
noncomputable def t__law_integer (a0 : Int) : Option (List Int) :=
  ((pure [] : Option (List Int)) >>= fun (x1 : (List Int)) => ((whileM (fun (x9 : (Int × (List Int))) => (pure ((decide (127 < x9.1))) : Option Bool)) (fun (x9 : (Int × (List Int))) => (t__law_integer_b1  x9 )) (a0, x1)) >>= fun (x16 : (Int × (List Int))) => ((up (appG x16.2 [x16.1]) : Option (List Int)) >>= fun x17 => (pure (x17) : Option (List Int)))))
theorem t__law_integer_ok (a0 : Int) : FJ f__law_integer [.d (eInt a0)] (t__law_integer a0) (eT eInt) := by
  unfold f__law_integer b__law_integer t__law_integer
  exact fn_ok (n_seqR (n_ownT (M := Option) (e := eInt) (xs := []) t_nil rfl (szS (k := 0) (by decide)) (by decide)) (fun x1 => (n_seqR (n_while (ΓI := fun (x9 : (Int × (List Int))) => [(0, some (.d (eInt x9.1))), (1, some (.own (List.map eInt x9.2)))]) (c := (fun (x9 : (Int × (List Int))) => (pure ((decide (127 < x9.1))) : Option Bool))) (F := (fun (x9 : (Int × (List Int))) => (t__law_integer_b1  x9 ))) (s0 := (a0, x1)) (Sb.cons rfl (Sb.cons rfl Sb.nil)) (fun x9 => (T.j (M := Option) (e := id) (a := (decide (127 < x9.1))) (t_cmp (t_var (x := eInt x9.1) rfl) (t_c (d := eInt 127)) (gt_int x9.1 127)))) (fun x9 => (t__law_integer_b1_ok  x9 ))) (fun x16 => (r_fz (xs := List.map eInt x16.2) rfl (r_return (j_caT (F := fun (x17 : (List Int)) => x17) (eb := (eT eInt)) (j_cons1 (j_g (j_opP (M := Option) (F := appG x16.2 [x16.1]) (ec := (eL eInt)) (t_var (x := (eL eInt) x16.2) rfl) (t_lst (t_cons (t_g (t_var (x := eInt x16.1) rfl)) t_nil) rfl (szS (k := 1) (by decide))) (fun c h => add_L eInt x16.2 [x16.1] c h))) t_nil) (fun a => tup_L eInt a)))))))) (show 1 ≤ 2 by decide)
noncomputable def t_integer_octets_b1  (x7 : (Int × (List Int))) : Option (Int × (List Int)) :=
  (((pure ((128 + (Builtin.bitAnd x7.1 (128 - 1)))) : Option Int) >>= fun x8 => (up (gd (x7.2.length < sizeLine) (x7.2 ++ [x8])) : Option (List Int))) >>= fun (x9 : (List Int)) => (((pure (7) : Option Int) >>= fun x10 => (up (shrG x7.1 x10) : Option Int)) >>= fun (x11 : Int) => (pure (x11, x9) : Option (Int × (List Int)))))
theorem t_integer_octets_b1_ok  (x7 : (Int × (List Int))) : NJ 2 [(0, some (.d (eInt x7.1))), (1, some (.own (List.map eInt x7.2)))] (mSeq (mApp 1 (mOp addP (mC d_HALF) (mOp andP (mVar 0) (mOp subP (mC d_HALF) (mC (.int 1)))))) (mAugG 0 shrP (mC d_GROUP))) (t_integer_octets_b1  x7 ) (fun (x7 : (Int × (List Int))) => [(0, some (.d (eInt x7.1))), (1, some (.own (List.map eInt x7.2)))]) := by
  unfold t_integer_octets_b1 
  exact (n_seq (n_app (e := eInt) (xs := x7.2) rfl (T.j (M := Option) (e := eInt) (a := (128 + (Builtin.bitAnd x7.1 (128 - 1)))) (t_op (show T _ _ (mC d_HALF) (eInt 128) from t_c) (t_op (t_var (x := eInt x7.1) rfl) (t_op (show T _ _ (mC d_HALF) (eInt 128) from t_c) (t_c (d := eInt 1)) (sub_int 128 1)) (and_int x7.1 (128 - 1))) (add_int 128 (Builtin.bitAnd x7.1 (128 - 1))))) (by decide)) (fun x9 => (n_end (F := fun (x11 : Int) => (x11, x9)) (n_augG (F := shrG) (x := x7.1) rfl (T.j (M := Option) (e := eInt) (a := 7) (show T _ _ (mC d_GROUP) (eInt 7) from t_c)) shr_int (by decide)) (fun x11 => (Sb.cons rfl (Sb.cons rfl Sb.nil))))))
noncomputable def t_integer_octets (a0 : Int) : Option (List Int) :=
  ((pure [] : Option (List Int)) >>= fun (x1 : (List Int)) => ((whileM (fun (x7 : (Int × (List Int))) => (pure ((decide (128 ≤ x7.1))) : Option Bool)) (fun (x7 : (Int × (List Int))) => (t_integer_octets_b1  x7 )) (a0, x1)) >>= fun (x12 : (Int × (List Int))) => (((pure (x12.2) : Option (List Int)) >>= fun x15 => ((pure (x12.1) : Option Int) >>= fun x13 => (pure ([]) : Option (List Int)) >>= fun x14 => (pure (x13 :: x14) : Option (List Int))) >>= fun x16 => (pure (x15 ++ x16) : Option (List Int))) >>= fun x17 => (up (gd (x17.length ≤ sizeLine) x17) : Option (List Int)))))
theorem t_integer_octets_ok (a0 : Int) : FJ f_integer_octets [.d (eInt a0)] (t_integer_octets a0) (eT eInt) := by
  unfold f_integer_octets b_integer_octets t_integer_octets
  exact fn_ok (n_seqR (n_ownT (M := Option) (e := eInt) (xs := []) t_nil rfl (szS (k := 0) (by decide)) (by decide)) (fun x1 => (n_seqR (n_while (ΓI := fun (x7 : (Int × (List Int))) => [(0, some (.d (eInt x7.1))), (1, some (.own (List.map eInt x7.2)))]) (c := (fun (x7 : (Int × (List Int))) => (pure ((decide (128 ≤ x7.1))) : Option Bool))) (F := (fun (x7 : (Int × (List Int))) => (t_integer_octets_b1  x7 ))) (s0 := (a0, x1)) (Sb.cons rfl (Sb.cons rfl Sb.nil)) (fun x7 => (T.j (M := Option) (e := id) (a := (decide (128 ≤ x7.1))) (t_cmp (t_var (x := eInt x7.1) rfl) (show T _ _ (mC d_HALF) (eInt 128) from t_c) (ge_int x7.1 128)))) (fun x7 => (t_integer_octets_b1_ok  x7 ))) (fun x12 => (r_fz (xs := List.map eInt x12.2) rfl (r_return (j_tupH (j_starL (T.j (M := Option) (e := (eL eInt)) (a := x12.2) (t_var (x := (eL eInt) x12.2) rfl)) (j_hcons (T.j (M := Option) (e := eInt) (a := x12.1) (t_var (x := eInt x12.1) rfl)) (j_hnil (M := Option) (e := eInt))))))))))) (show 1 ≤ 2 by decide)
noncomputable def t_bits_of (a0 : Int) : Option Str :=
  (((up (range1 7) : Option (List Int)) >>= fun x8 => (up (gd (x8.length ≤ sizeLine) ()) : Option Unit) >>= fun _ => lcY (fun (x1 : Int) => ((((pure (a0) : Option Int) >>= fun x4 => ((up (fdivG 128 2) : Option Int) >>= fun x2 => (pure (x1) : Option Int) >>= fun x3 => (up (shrG x2 x3) : Option Int)) >>= fun x5 => (pure (Builtin.bitAnd x4 x5) : Option Int)) >>= fun x6 => (pure (!decide (x6 = 0)) : Option Bool)) >>= fun x7 => if x7 = true then (pure (("1" : Str)) : Option Str) else (pure (("0" : Str)) : Option Str))) x8) >>= fun x9 => (up (joinG ("" : Str) x9) : Option Str))
theorem t_bits_of_ok (a0 : Int) : FJ f_bits_of [.d (eInt a0)] (t_bits_of a0) eR := by
  unfold f_bits_of b_bits_of t_bits_of
  exact fn_ok (r_return (j_join (a := ("" : Str)) (t_c (d := eR ("" : Str))) (j_lcY (enc := eInt) (fM := (fun (x1 : Int) => ((((pure (a0) : Option Int) >>= fun x4 => ((up (fdivG 128 2) : Option Int) >>= fun x2 => (pure (x1) : Option Int) >>= fun x3 => (up (shrG x2 x3) : Option Int)) >>= fun x5 => (pure (Builtin.bitAnd x4 x5) : Option Int)) >>= fun x6 => (pure (!decide (x6 = 0)) : Option Bool)) >>= fun x7 => if x7 = true then (pure (("1" : Str)) : Option Str) else (pure (("0" : Str)) : Option Str)))) (eb := eR) (j_range1P (M := Option) (j := 7) (t_cons (t_g (show T _ _ (mC d_GROUP) (eInt 7) from t_c)) t_nil) rfl) (fun x1 => (tg_name (by decide))) (fun x1 => (j_ifEM (j_truI (j_opT (F := fun (x4 : Int) (x5 : Int) => Builtin.bitAnd x4 x5) (ec := eInt) (T.j (M := Option) (e := eInt) (a := a0) (t_var (x := eInt a0) rfl)) (j_op (F := fun (x2 : Int) (x3 : Int) => shrG x2 x3) (ec := eInt) (j_opP (M := Option) (F := fdivG 128 2) (ec := eInt) (show T _ _ (mC d_HALF) (eInt 128) from t_c) (t_c (d := eInt 2)) (fun c h => fdiv_int 128 2 c h)) (T.j (M := Option) (e := eInt) (a := x1) (t_var (x := eInt x1) rfl)) (fun x y c h => shr_int x y c h)) (fun x y => and_int x y))) (T.j (M := Option) (e := eR) (a := ("1" : Str)) (t_c (d := eR ("1" : Str)))) (T.j (M := Option) (e := eR) (a := ("0" : Str)) (t_c (d := eR ("0" : Str))))))))) (show 1 ≤ 2 by decide)
noncomputable def t_read_integer_b1 (a0 : (List Int)) (a1 : Int) (x8 : Int) : Option Int :=
  ((pure (1) : Option Int) >>= fun (x12 : Int) => (pure (x8 + x12) : Option Int))
theorem t_read_integer_b1_ok (a0 : (List Int)) (a1 : Int) (x8 : Int) : NJ 4 [(0, some (.d ((eT eInt) a0))), (1, some (.d (eInt a1))), (2, some (.d (eInt x8)))] (mAug 2 (fun i j => i + j) (mC (.int 1))) (t_read_integer_b1 a0 a1 x8 ) (fun (x8 : Int) => [(0, some (.d ((eT eInt) a0))), (1, some (.d (eInt a1))), (2, some (.d (eInt x8)))]) := by
  unfold t_read_integer_b1 
  exact (n_end (F := fun (x12 : Int) => (x8 + x12)) (n_aug (x := x8) rfl (T.j (M := Option) (e := eInt) (a := 1) (t_c (d := eInt 1))) (by decide)) (fun x12 => (Sb.cons rfl (Sb.cons rfl (Sb.cons rfl Sb.nil)))))
noncomputable def t_read_integer (a0 : (List Int)) (a1 : Int) : Option (Int × Int) :=
  ((pure (a1) : Option Int) >>= fun (x2 : Int) => ((whileM (fun (x8 : Int) => ((pure ((decide (x8 < (a0.length : Int)))) : Option Bool) >>= fun x11 => if x11 = true then ((up (atI a0 x8) : Option Int) >>= fun x9 => (pure (128) : Option Int) >>= fun x10 => (pure (decide (x10 ≤ x9)) : Option Bool)) else (pure (false) : Option Bool))) (fun (x8 : Int) => (t_read_integer_b1 a0 a1 x8 )) x2) >>= fun (x13 : Int) => (((pure ((decide (x13 = (a0.length : Int)))) : Option Bool) >>= fun x17 => if x17 = true then (pure (true) : Option Bool) else (((up (atI a0 x13) : Option Int) >>= fun x14 => (pure (0) : Option Int) >>= fun x15 => (pure (decide (x14 = x15)) : Option Bool)) >>= fun x16 => if x16 = true then (pure ((decide (a1 < x13))) : Option Bool) else (pure (false) : Option Bool))) >>= fun x23 => if x23 = true then (up none : Option (Int × Int)) else (((((pure (cutP a0 (some a1) (some (x13 + 1))).reverse : Option (List Int)) >>= fun x19 => (up (gd (x19.length ≤ sizeLine) ()) : Option Unit) >>= fun _ => lcY (fun (x18 : Int) => t_bits_of x18) x19) >>= fun x20 => (up (joinG ("" : Str) x20) : Option Str)) >>= fun x21 => (up (intBinG x21) : Option Int)) >>= fun (x22 : Int) => (pure ((x22, (x13 + 1))) : Option (Int × Int))))))
theorem t_read_integer_ok (a0 : (List Int)) (a1 : Int) : FJ f_read_integer [.d ((eT eInt) a0), .d (eInt a1)] (t_read_integer a0 a1) (eP2 eInt eInt) := by
  unfold f_read_integer b_read_integer t_read_integer
  exact fn_ok (n_seqR (n_set (T.j (M := Option) (e := eInt) (a := a1) (t_var (x := eInt a1) rfl)) (fun x1 => (tg_name (by decide)))) (fun x2 => (n_seqR (n_while (ΓI := fun (x8 : Int) => [(0, some (.d ((eT eInt) a0))), (1, some (.d (eInt a1))), (2, some (.d (eInt x8)))]) (c := (fun (x8 : Int) => ((pure ((decide (x8 < (a0.length : Int)))) : Option Bool) >>= fun x11 => if x11 = true then ((up (atI a0 x8) : Option Int) >>= fun x9 => (pure (128) : Option Int) >>= fun x10 => (pure (decide (x10 ≤ x9)) : Option Bool)) else (pure (false) : Option Bool)))) (F := (fun (x8 : Int) => (t_read_integer_b1 a0 a1 x8 ))) (s0 := x2) (Sb.cons rfl (Sb.cons rfl (Sb.cons rfl Sb.nil))) (fun x8 => (j_and (T.j (M := Option) (e := id) (a := (decide (x8 < (a0.length : Int)))) (t_cmp (t_var (x := eInt x8) rfl) (t_ca (z := eInt (a0.length : Int)) (t_cons (t_g (t_var (x := (eT eInt) a0) rfl)) t_nil) (len_T eInt a0)) (lt_int x8 (a0.length : Int)))) (j_cmp (F := fun (x9 : Int) (x10 : Int) => decide (x10 ≤ x9)) (j_opP (M := Option) (F := atI a0 x8) (ec := eInt) (t_var (x := (eT eInt) a0) rfl) (t_var (x := eInt x8) rfl) (fun c h => ix_T eInt a0 x8 c h)) (T.j (M := Option) (e := eInt) (a := 128) (show T _ _ (mC d_HALF) (eInt 128) from t_c)) (fun x y => ge_int x y)))) (fun x8 => (t_read_integer_b1_ok a0 a1 x8 ))) (fun x13 => (rs_ifM (j_or (T.j (M := Option) (e := id) (a := (decide (x13 = (a0.length : Int)))) (t_cmp (t_var (x := eInt x13) rfl) (t_ca (z := eInt (a0.length : Int)) (t_cons (t_g (t_var (x := (eT eInt) a0) rfl)) t_nil) (len_T eInt a0)) (eq_d eqd_int x13 (a0.length : Int)))) (j_and (j_cmp (F := fun (x14 : Int) (x15 : Int) => decide (x14 = x15)) (j_opP (M := Option) (F := atI a0 x13) (ec := eInt) (t_var (x := (eT eInt) a0) rfl) (t_var (x := eInt x13) rfl) (fun c h => ix_T eInt a0 x13 c h)) (T.j (M := Option) (e := eInt) (a := 0) (t_c (d := eInt 0))) (fun x y => eq_d eqd_int x y)) (T.j (M := Option) (e := id) (a := (decide (a1 < x13))) (t_cmp (t_var (x := eInt x13) rfl) (t_var (x := eInt a1) rfl) (gt_int x13 a1))))) (r_bad (fun B => rfl)) (rs_skip (r_return (j_map (e' := (eP2 eInt eInt)) (F := fun (x22 : Int) => (x22, (x13 + 1))) (j_tup (ds := fun (x22 : Int) => [eInt (x22), eInt ((x13 + 1))]) (j_cons1 (j_g (j_ca (F := fun (x21 : Str) => intBinG x21) (eb := eInt) (j_cons1 (j_g (j_join (a := ("" : Str)) (t_c (d := eR ("" : Str))) (j_lcY (enc := eInt) (fM := (fun (x18 : Int) => t_bits_of x18)) (eb := eR) (T.j (M := Option) (e := List.map eInt) (a := (cutP a0 (some a1) (some (x13 + 1))).reverse) (t_seqT (by simpa only [List.map_reverse] using t_rev (t_sl (t_var (x := (eT eInt) a0) rfl) (t_part (t_var (x := eInt a1) rfl)) (t_part (t_op (t_var (x := eInt x13) rfl) (t_c (d := eInt 1)) (add_int x13 1))) (sl_T eInt a0 (some a1) (some (x13 + 1))))))) (fun x18 => (tg_name (by decide))) (fun x18 => (j_callT (t_cons (t_g (t_var (x := eInt x18) rfl)) t_nil) rfl (t_bits_of_ok x18)))))) (t_cons (t_g (t_c (d := eInt 2))) t_nil)) (fun a b h => intBin_R a b h))) (t_cons (t_g (t_op (t_var (x := eInt x13) rfl) (t_c (d := eInt 1)) (add_int x13 1))) t_nil)) (fun _ => rfl) (fun _ => szS (k := 2) (by decide))) (fun _ => rfl))))))))) (show 2 ≤ 4 by decide)
noncomputable def t__law_check_b1  (x14 : Int) (x15 : Int) : Option Int :=
  ((((((up (mulG x14 257) : Option Int) >>= fun x17 => (pure (x15) : Option Int) >>= fun x18 => (pure (x17 + x18) : Option Int)) >>= fun x19 => (pure (1) : Option Int) >>= fun x20 => (pure (x19 + x20) : Option Int)) >>= fun x21 => (pure (x21) : Option Int)) >>= fun x22 => (pure (4294967291) : Option Int) >>= fun x23 => (up (modG x22 x23) : Option Int)) >>= fun (x25 : Int) => (pure x25 : Option Int))
theorem t__law_check_b1_ok  (x14 : Int) (x15 : Int) : NJ 3 [(2, some (.d (eInt x15))), (1, some (.d (eInt x14)))] (mSet (mgName 1) (mOp modP (mCa intP (mCons (mG (mOp addP (mOp addP (mOp mulAP (mVar 1) (mC (.int 257))) (mVar 2)) (mC (.int 1)))) mNil)) (mC (.int 4294967291)))) (t__law_check_b1  x14 x15) (fun (x14 : Int) => [(1, some (.d (eInt x14)))]) := by
  unfold t__law_check_b1 
  exact (n_end (F := fun (x25 : Int) => x25) (n_set (j_op (F := fun (x22 : Int) (x23 : Int) => modG x22 x23) (ec := eInt) (j_caT (F := fun (x21 : Int) => x21) (eb := eInt) (j_cons1 (j_g (j_opT (F := fun (x19 : Int) (x20 : Int) => x19 + x20) (ec := eInt) (j_opT (F := fun (x17 : Int) (x18 : Int) => x17 + x18) (ec := eInt) (j_opP (M := Option) (F := mulG x14 257) (ec := eInt) (t_var (x := eInt x14) rfl) (t_c (d := eInt 257)) (fun c h => mul_int x14 257 c h)) (T.j (M := Option) (e := eInt) (a := x15) (t_var (x := eInt x15) rfl)) (fun x y => add_int x y)) (T.j (M := Option) (e := eInt) (a := 1) (t_c (d := eInt 1))) (fun x y => add_int x y))) t_nil) (fun a => int_int a)) (T.j (M := Option) (e := eInt) (a := 4294967291) (t_c (d := eInt 4294967291))) (fun x y c h => mod_int x y c h)) (fun x24 => (tg_name (by decide)))) (fun x25 => (Sb.cons rfl Sb.nil)))
noncomputable def t__law_check (a0 : (List Int)) : Option Int :=
  ((pure (1) : Option Int) >>= fun (x2 : Int) => (((pure a0 : Option (List Int)) >>= fun x16 => foldM' (fun (x14 : Int) (x15 : Int) => (t__law_check_b1  x14 x15)) x16 x2) >>= fun (x26 : Int) => (pure (x26) : Option Int)))
theorem t__law_check_ok (a0 : (List Int)) : FJ f__law_check [.d ((eT eInt) a0)] (t__law_check a0) eInt := by
  unfold f__law_check b__law_check t__law_check
  exact fn_ok (n_seqR (n_set (T.j (M := Option) (e := eInt) (a := 1) (t_c (d := eInt 1))) (fun x1 => (tg_name (by decide)))) (fun x2 => (n_seqR (n_for (enc := eInt) (ΓI := fun (x14 : Int) => [(1, some (.d (eInt x14)))]) (F := (fun (x14 : Int) (x15 : Int) => (t__law_check_b1  x14 x15))) (s0 := x2) (T.j (M := Option) (e := List.map eInt) (a := a0) (t_seqT (t_var (x := (eT eInt) a0) rfl))) (Sb.cons rfl Sb.nil) (fun x15 => (tg_name (by decide))) (fun x14 x15 => (t__law_check_b1_ok  x14 x15))) (fun x26 => (r_return (T.j (M := Option) (e := eInt) (a := x26) (t_var (x := eInt x26) rfl))))))) (show 1 ≤ 3 by decide)
noncomputable def t__law_sealed_b1 (a0 : (List Int)) (x10 : (Int × (List Int))) (x11 : Int) : Option (Int × (List Int)) :=
  (((up (modG x10.1 256) : Option Int) >>= fun x13 => (up (gd (x10.2.length < sizeLine) (x10.2 ++ [x13])) : Option (List Int))) >>= fun (x14 : (List Int)) => ((up (fdivG x10.1 256) : Option Int) >>= fun (x16 : Int) => (pure (x16, x14) : Option (Int × (List Int)))))
theorem t__law_sealed_b1_ok (a0 : (List Int)) (x10 : (Int × (List Int))) (x11 : Int) : NJ 4 [(3, some (.d (eInt x11))), (0, some (.d ((eT eInt) a0))), (1, some (.d (eInt x10.1))), (2, some (.own (List.map eInt x10.2)))] (mSeq (mApp 2 (mOp modP (mCa intP (mCons (mG (mVar 1)) mNil)) (mC (.int 256)))) (mSet (mgName 1) (mOp fdivP (mCa intP (mCons (mG (mVar 1)) mNil)) (mC (.int 256))))) (t__law_sealed_b1 a0 x10 x11) (fun (x10 : (Int × (List Int))) => [(0, some (.d ((eT eInt) a0))), (1, some (.d (eInt x10.1))), (2, some (.own (List.map eInt x10.2)))]) := by
  unfold t__law_sealed_b1 
  exact (n_seq (n_app (e := eInt) (xs := x10.2) rfl (j_opP (M := Option) (F := modG x10.1 256) (ec := eInt) (t_ca (z := eInt x10.1) (t_cons (t_g (t_var (x := eInt x10.1) rfl)) t_nil) (int_int x10.1)) (t_c (d := eInt 256)) (fun c h => mod_int x10.1 256 c h)) (by decide)) (fun x14 => (n_end (F := fun (x16 : Int) => (x16, x14)) (n_set (j_opP (M := Option) (F := fdivG x10.1 256) (ec := eInt) (t_ca (z := eInt x10.1) (t_cons (t_g (t_var (x := eInt x10.1) rfl)) t_nil) (int_int x10.1)) (t_c (d := eInt 256)) (fun c h => fdiv_int x10.1 256 c h)) (fun x15 => (tg_name (by decide)))) (fun x16 => (Sb.cons rfl (Sb.cons rfl (Sb.cons rfl Sb.nil)))))))
noncomputable def t__law_sealed (a0 : (List Int)) : Option (List Int) :=
  ((t__law_check a0 >>= fun x1 => (pure [] : Option (List Int)) >>= fun x2 => (pure (x1, x2) : Option (Int × (List Int)))) >>= fun (x3 : (Int × (List Int))) => (((up (range1 4) : Option (List Int)) >>= fun x12 => foldM' (fun (x10 : (Int × (List Int))) (x11 : Int) => (t__law_sealed_b1 a0 x10 x11)) x12 (x3.1, x3.2)) >>= fun (x17 : (Int × (List Int))) => (up (appG a0 x17.2.reverse) : Option (List Int))))
theorem t__law_sealed_ok (a0 : (List Int)) : FJ f__law_sealed [.d ((eT eInt) a0)] (t__law_sealed a0) (eT eInt) := by
  unfold f__law_sealed b__law_sealed t__law_sealed
  exact fn_ok (n_seqR (n_parM (j_g (j_callT (t_cons (t_g (t_var (x := (eT eInt) a0) rfl)) t_nil) rfl (t__law_check_ok a0))) (T.j (M := Option) (e := fun xs => SV.own (List.map eInt xs)) (a := []) (t_ml t_nil rfl (szS (k := 0) (by decide)))) (by decide) (by decide)) (fun x3 => (n_seqR (n_for (enc := eInt) (ΓI := fun (x10 : (Int × (List Int))) => [(0, some (.d ((eT eInt) a0))), (1, some (.d (eInt x10.1))), (2, some (.own (List.map eInt x10.2)))]) (F := (fun (x10 : (Int × (List Int))) (x11 : Int) => (t__law_sealed_b1 a0 x10 x11))) (s0 := (x3.1, x3.2)) (j_range1P (M := Option) (j := 4) (t_cons (t_g (t_c (d := eInt 4))) t_nil) rfl) (Sb.cons rfl (Sb.cons rfl (Sb.cons rfl Sb.nil))) (fun x11 => (tg_name (by decide))) (fun x10 x11 => (t__law_sealed_b1_ok a0 x10 x11))) (fun x17 => (r_fz (xs := List.map eInt x17.2) rfl (r_return (j_opP (M := Option) (F := appG a0 x17.2.reverse) (ec := (eT eInt)) (t_ca (z := (eT eInt) a0) (t_cons (t_g (t_var (x := (eT eInt) a0) rfl)) t_nil) (tup_T eInt a0)) (t_ca (z := (eT eInt) x17.2.reverse) (t_cons (t_g (t_revL' (e := eInt) (xs := x17.2) (t_var (x := (eL eInt) x17.2) rfl))) t_nil) (tup_L eInt x17.2.reverse)) (fun c h => add_T eInt a0 x17.2.reverse c h)))))))) (show 1 ≤ 4 by decide)
noncomputable def t_check_of_b1  (x13 : Int) (x14 : Int) : Option Int :=
  (((((up (mulG x13 257) : Option Int) >>= fun x16 => (pure (x14) : Option Int) >>= fun x17 => (pure (x16 + x17) : Option Int)) >>= fun x18 => (pure (1) : Option Int) >>= fun x19 => (pure (x18 + x19) : Option Int)) >>= fun x20 => (pure (4294967291) : Option Int) >>= fun x21 => (up (modG x20 x21) : Option Int)) >>= fun (x23 : Int) => (pure x23 : Option Int))
theorem t_check_of_b1_ok  (x13 : Int) (x14 : Int) : NJ 3 [(2, some (.d (eInt x14))), (1, some (.d (eInt x13)))] (mSet (mgName 1) (mOp modP (mOp addP (mOp addP (mOp mulAP (mVar 1) (mC d_FACTOR)) (mVar 2)) (mC (.int 1))) (mC d_MODULUS))) (t_check_of_b1  x13 x14) (fun (x13 : Int) => [(1, some (.d (eInt x13)))]) := by
  unfold t_check_of_b1 
  exact (n_end (F := fun (x23 : Int) => x23) (n_set (j_op (F := fun (x20 : Int) (x21 : Int) => modG x20 x21) (ec := eInt) (j_opT (F := fun (x18 : Int) (x19 : Int) => x18 + x19) (ec := eInt) (j_opT (F := fun (x16 : Int) (x17 : Int) => x16 + x17) (ec := eInt) (j_opP (M := Option) (F := mulG x13 257) (ec := eInt) (t_var (x := eInt x13) rfl) (show T _ _ (mC d_FACTOR) (eInt 257) from t_c) (fun c h => mul_int x13 257 c h)) (T.j (M := Option) (e := eInt) (a := x14) (t_var (x := eInt x14) rfl)) (fun x y => add_int x y)) (T.j (M := Option) (e := eInt) (a := 1) (t_c (d := eInt 1))) (fun x y => add_int x y)) (T.j (M := Option) (e := eInt) (a := 4294967291) (show T _ _ (mC d_MODULUS) (eInt 4294967291) from t_c)) (fun x y c h => mod_int x y c h)) (fun x22 => (tg_name (by decide)))) (fun x23 => (Sb.cons rfl Sb.nil)))
noncomputable def t_check_of (a0 : (List Int)) : Option Int :=
  ((pure (1) : Option Int) >>= fun (x2 : Int) => (((pure a0 : Option (List Int)) >>= fun x15 => foldM' (fun (x13 : Int) (x14 : Int) => (t_check_of_b1  x13 x14)) x15 x2) >>= fun (x24 : Int) => (pure (x24) : Option Int)))
theorem t_check_of_ok (a0 : (List Int)) : FJ f_check_of [.d ((eT eInt) a0)] (t_check_of a0) eInt := by
  unfold f_check_of b_check_of t_check_of
  exact fn_ok (n_seqR (n_set (T.j (M := Option) (e := eInt) (a := 1) (t_c (d := eInt 1))) (fun x1 => (tg_name (by decide)))) (fun x2 => (n_seqR (n_for (enc := eInt) (ΓI := fun (x13 : Int) => [(1, some (.d (eInt x13)))]) (F := (fun (x13 : Int) (x14 : Int) => (t_check_of_b1  x13 x14))) (s0 := x2) (T.j (M := Option) (e := List.map eInt) (a := a0) (t_seqT (t_var (x := (eT eInt) a0) rfl))) (Sb.cons rfl Sb.nil) (fun x14 => (tg_name (by decide))) (fun x13 x14 => (t_check_of_b1_ok  x13 x14))) (fun x24 => (r_return (T.j (M := Option) (e := eInt) (a := x24) (t_var (x := eInt x24) rfl))))))) (show 1 ≤ 3 by decide)
noncomputable def t_sealed (a0 : (List Int)) : Option (List Int) :=
  (t_check_of a0 >>= fun (x2 : Int) => (((pure (a0) : Option (List Int)) >>= fun x15 => ((up (shrG x2 24) : Option Int) >>= fun x13 => (((up (shrG x2 16) : Option Int) >>= fun x3 => (pure (255) : Option Int) >>= fun x4 => (pure (Builtin.bitAnd x3 x4) : Option Int)) >>= fun x11 => (((up (shrG x2 8) : Option Int) >>= fun x5 => (pure (255) : Option Int) >>= fun x6 => (pure (Builtin.bitAnd x5 x6) : Option Int)) >>= fun x9 => ((pure ((Builtin.bitAnd x2 255)) : Option Int) >>= fun x7 => (pure ([]) : Option (List Int)) >>= fun x8 => (pure (x7 :: x8) : Option (List Int))) >>= fun x10 => (pure (x9 :: x10) : Option (List Int))) >>= fun x12 => (pure (x11 :: x12) : Option (List Int))) >>= fun x14 => (pure (x13 :: x14) : Option (List Int))) >>= fun x16 => (pure (x15 ++ x16) : Option (List Int))) >>= fun x17 => (up (gd (x17.length ≤ sizeLine) x17) : Option (List Int))))
theorem t_sealed_ok (a0 : (List Int)) : FJ f_sealed [.d ((eT eInt) a0)] (t_sealed a0) (eT eInt) := by
  unfold f_sealed b_sealed t_sealed
  exact fn_ok (n_seqR (n_set (j_callT (t_cons (t_g (t_var (x := (eT eInt) a0) rfl)) t_nil) rfl (t_check_of_ok a0)) (fun x1 => (tg_name (by decide)))) (fun x2 => (r_return (j_tupH (j_starT (T.j (M := Option) (e := (eT eInt)) (a := a0) (t_var (x := (eT eInt) a0) rfl)) (j_hcons (j_opP (M := Option) (F := shrG x2 24) (ec := eInt) (t_var (x := eInt x2) rfl) (t_c (d := eInt 24)) (fun c h => shr_int x2 24 c h)) (j_hcons (j_opT (F := fun (x3 : Int) (x4 : Int) => Builtin.bitAnd x3 x4) (ec := eInt) (j_opP (M := Option) (F := shrG x2 16) (ec := eInt) (t_var (x := eInt x2) rfl) (t_c (d := eInt 16)) (fun c h => shr_int x2 16 c h)) (T.j (M := Option) (e := eInt) (a := 255) (t_c (d := eInt 255))) (fun x y => and_int x y)) (j_hcons (j_opT (F := fun (x5 : Int) (x6 : Int) => Builtin.bitAnd x5 x6) (ec := eInt) (j_opP (M := Option) (F := shrG x2 8) (ec := eInt) (t_var (x := eInt x2) rfl) (t_c (d := eInt 8)) (fun c h => shr_int x2 8 c h)) (T.j (M := Option) (e := eInt) (a := 255) (t_c (d := eInt 255))) (fun x y => and_int x y)) (j_hcons (T.j (M := Option) (e := eInt) (a := (Builtin.bitAnd x2 255)) (t_op (t_var (x := eInt x2) rfl) (t_c (d := eInt 255)) (and_int x2 255))) (j_hnil (M := Option) (e := eInt))))))))))) (show 1 ≤ 2 by decide)
noncomputable def t_is_sealed (a0 : (List Int)) : Option Bool :=
  ((pure ((decide (4 ≤ (a0.length : Int)))) : Option Bool) >>= fun x3 => if x3 = true then (t_sealed (cutP a0 none (some ((a0.length : Int) - 4))) >>= fun x1 => (pure (a0) : Option (List Int)) >>= fun x2 => (pure (decide (x1 = x2)) : Option Bool)) else (pure (false) : Option Bool))
theorem t_is_sealed_ok (a0 : (List Int)) : FJ f_is_sealed [.d ((eT eInt) a0)] (t_is_sealed a0) eBool := by
  unfold f_is_sealed b_is_sealed t_is_sealed
  exact fn_ok (r_return (j_andV (T.j (M := Option) (e := eBool) (a := (decide (4 ≤ (a0.length : Int)))) (t_b (t_cmp (t_ca (z := eInt (a0.length : Int)) (t_cons (t_g (t_var (x := (eT eInt) a0) rfl)) t_nil) (len_T eInt a0)) (show T _ _ (mC d_CHECK) (eInt 4) from t_c) (ge_int (a0.length : Int) 4)))) (j_b (j_cmp (F := fun (x1 : (List Int)) (x2 : (List Int)) => decide (x1 = x2)) (j_callT (t_cons (t_g (t_sl (t_var (x := (eT eInt) a0) rfl) t_noPart (t_part (t_op (t_ca (z := eInt (a0.length : Int)) (t_cons (t_g (t_var (x := (eT eInt) a0) rfl)) t_nil) (len_T eInt a0)) (show T _ _ (mC d_CHECK) (eInt 4) from t_c) (sub_int (a0.length : Int) 4))) (sl_T eInt a0 none (some ((a0.length : Int) - 4))))) t_nil) rfl (t_sealed_ok (cutP a0 none (some ((a0.length : Int) - 4))))) (T.j (M := Option) (e := (eT eInt)) (a := a0) (t_ca (z := (eT eInt) a0) (t_cons (t_g (t_var (x := (eT eInt) a0) rfl)) t_nil) (tup_T eInt a0))) (fun x y => eq_d (eqd_T eqd_int) x y))))) (show 1 ≤ 1 by decide)
noncomputable def t_law_b1  (x260 : (List Int)) (x261 : Int) : D (List Int) :=
  (((((((up (atI x260 x261) : D Int) >>= fun x263 => (pure (1) : D Int) >>= fun x264 => (pure (x263 + x264) : D Int)) >>= fun x265 => tkD 255 >>= fun x266 => (pure (x265 + x266) : D Int)) >>= fun x267 => (pure (x267) : D Int)) >>= fun x268 => (pure (256) : D Int) >>= fun x269 => (up (modG x268 x269) : D Int)) >>= fun x270 => (pure (x261) : D Int) >>= fun x271 => (up (setG x260 x271 x270) : D (List Int))) >>= fun (x272 : (List Int)) => (pure x272 : D (List Int)))
theorem t_law_b1_ok  (x260 : (List Int)) (x261 : Int) : NJ 15 [(13, some (.d (eInt x261))), (1, some .bag), (12, some (.own (List.map eInt x260)))] ml_18 (t_law_b1  x260 x261) (fun (x260 : (List Int)) => [(1, some .bag), (12, some (.own (List.map eInt x260)))]) := by
  unfold t_law_b1 ml_18
  exact (n_end (F := fun (x272 : (List Int)) => x272) (n_setIx (xs := x260) (e := eInt) rfl (j_op (F := fun (x268 : Int) (x269 : Int) => modG x268 x269) (ec := eInt) (j_caT (F := fun (x267 : Int) => x267) (eb := eInt) (j_cons1 (j_g (j_opT (F := fun (x265 : Int) (x266 : Int) => x265 + x266) (ec := eInt) (j_opT (F := fun (x263 : Int) (x264 : Int) => x263 + x264) (ec := eInt) (j_ixOwnP (M := D) (e := eInt) (xs := x260) rfl (t_var (x := eInt x261) rfl)) (T.j (M := D) (e := eInt) (a := 1) (t_c (d := eInt 1))) (fun x y => add_int x y)) (j_callT (t_cons (t_bag rfl) (t_cons (t_g (t_c (d := eInt 255))) t_nil)) rfl (tkD_ok 255)) (fun x y => add_int x y))) t_nil) (fun a => int_int a)) (T.j (M := D) (e := eInt) (a := 256) (t_c (d := eInt 256))) (fun x y c h => mod_int x y c h)) (T.j (M := D) (e := eInt) (a := x261) (t_var (x := eInt x261) rfl)) (by decide)) (fun x272 => (Sb.cons rfl (Sb.cons rfl Sb.nil))))
noncomputable def t_law_b2  (x320 : (List Int)) (x321 : Int) : D (List Int) :=
  (((((((up (atI x320 x321) : D Int) >>= fun x323 => (pure (1) : D Int) >>= fun x324 => (pure (x323 + x324) : D Int)) >>= fun x325 => tkD 255 >>= fun x326 => (pure (x325 + x326) : D Int)) >>= fun x327 => (pure (x327) : D Int)) >>= fun x328 => (pure (256) : D Int) >>= fun x329 => (up (modG x328 x329) : D Int)) >>= fun x330 => (pure (x321) : D Int) >>= fun x331 => (up (setG x320 x331 x330) : D (List Int))) >>= fun (x332 : (List Int)) => (pure x332 : D (List Int)))
theorem t_law_b2_ok  (x320 : (List Int)) (x321 : Int) : NJ 15 [(13, some (.d (eInt x321))), (1, some .bag), (12, some (.own (List.map eInt x320)))] ml_18 (t_law_b2  x320 x321) (fun (x320 : (List Int)) => [(1, some .bag), (12, some (.own (List.map eInt x320)))]) := by
  unfold t_law_b2 ml_18
  exact (n_end (F := fun (x332 : (List Int)) => x332) (n_setIx (xs := x320) (e := eInt) rfl (j_op (F := fun (x328 : Int) (x329 : Int) => modG x328 x329) (ec := eInt) (j_caT (F := fun (x327 : Int) => x327) (eb := eInt) (j_cons1 (j_g (j_opT (F := fun (x325 : Int) (x326 : Int) => x325 + x326) (ec := eInt) (j_opT (F := fun (x323 : Int) (x324 : Int) => x323 + x324) (ec := eInt) (j_ixOwnP (M := D) (e := eInt) (xs := x320) rfl (t_var (x := eInt x321) rfl)) (T.j (M := D) (e := eInt) (a := 1) (t_c (d := eInt 1))) (fun x y => add_int x y)) (j_callT (t_cons (t_bag rfl) (t_cons (t_g (t_c (d := eInt 255))) t_nil)) rfl (tkD_ok 255)) (fun x y => add_int x y))) t_nil) (fun a => int_int a)) (T.j (M := D) (e := eInt) (a := 256) (t_c (d := eInt 256))) (fun x y c h => mod_int x y c h)) (T.j (M := D) (e := eInt) (a := x321) (t_var (x := eInt x321) rfl)) (by decide)) (fun x332 => (Sb.cons rfl (Sb.cons rfl Sb.nil))))
noncomputable def t_law_b3  (x167 : Unit) (x168 : Int) : D (Out Unit Unit Bool) :=
  ((((tkD 200 >>= fun x176 => (((up (powG 10 9) : D Int) >>= fun (x170 : Int) => tkD x170) >>= fun x174 => ((up (powG 10 60) : D Int) >>= fun x172 => ((up (powG 10 9) : D Int) >>= fun (x171 : Int) => tkD x171) >>= fun x173 => (pure (x172 + x173) : D Int)) >>= fun x175 => (pure (x174, x175) : D (Int × Int))) >>= fun x177 => (pure (x176, x177) : D (Int × (Int × Int)))) >>= fun (x178 : (Int × (Int × Int))) => (pure ([x178.1, x178.2.1, 127, 128, 16384, x178.2.2]) : D (List Int))) >>= fun (x179 : (List Int)) => smD eInt x179) >>= fun (x181 : Int) => ((((up (t__law_integer x181) : D (List Int)) >>= fun x186 => (((tkD 5 >>= fun x182 => (up (range1 x182) : D (List Int))) >>= fun x184 => (up (gd (x184.length ≤ sizeLine) ()) : D Unit) >>= fun _ => lcY (fun (x183 : Int) => tkD 256) x184) >>= fun x185 => (pure (x185) : D (List Int))) >>= fun x187 => (pure (x186, x187) : D ((List Int) × (List Int)))) >>= fun (x188 : ((List Int) × (List Int))) => (pure ((x188.1, x188.2)) : D ((List Int) × (List Int)))) >>= fun (x190 : ((List Int) × (List Int))) => ((((((up (t_integer_octets x181) : D (List Int)) >>= fun x194 => (((up (appG x190.2 x190.1) : D (List Int)) >>= fun x191 => (pure ([5]) : D (List Int)) >>= fun x192 => (up (appG x191 x192) : D (List Int))) >>= fun (x193 : (List Int)) => (up (t_read_integer x193 (x190.2.length : Int)) : D (Int × Int))) >>= fun x195 => (pure (x194, x195) : D ((List Int) × (Int × Int)))) >>= fun (x196 : ((List Int) × (Int × Int))) => (pure ((x196.1, x196.2)) : D ((List Int) × (Int × Int)))) >>= fun (x197 : ((List Int) × (Int × Int))) => (up (gdc (alkP f__law_alike ((eQ2 (eT eInt) (eP2 eInt eInt)) x197) ((eQ2 (eT eInt) (eP2 eInt eInt)) (x190.1, (x181, ((x190.2.length : Int) + (x190.1.length : Int)))))) true) : D Bool)) >>= fun x198 => (pure (!x198) : D Bool)) >>= fun x340 => if x340 = true then ((pure (false) : D Bool) >>= fun x199 => (pure (.rt x199) : D (Out Unit Unit Bool))) else (((up (appG x190.2 (cutP x190.1 none (some (-1)))) : D (List Int)) >>= fun (x200 : (List Int)) => evD (g__law_octets (f_read_integer [.d ((eT eInt) (x200)), .d (eInt ((x190.2.length : Int)))]))) >>= fun (x202 : PD) => (((pure (x202) : D PD) >>= fun x203 => (pure ((("bytes" : Str), (x190.2.length : Int), ("integer" : Str))) : D (Str × Int × Str)) >>= fun x204 => (up (neP ((id : PD → PD) x203) ((eP3 eR eInt eR) x204)) : D Bool)) >>= fun x339 => if x339 = true then ((pure (false) : D Bool) >>= fun x205 => (pure (.rt x205) : D (Out Unit Unit Bool))) else (if (decide (1 < (x190.1.length : Int))) = true then (((pure ((cutP x190.1 none (some (-1)))) : D (List Int)) >>= fun x210 => ((((up (atI x190.1 (-1)) : D Int) >>= fun x206 => (pure (x206) : D Int)) >>= fun x207 => (pure (128) : D Int) >>= fun x208 => (pure (x207 + x208) : D Int)) >>= fun (x209 : Int) => (pure ([x209, 0]) : D (List Int))) >>= fun x211 => (up (appG x210 x211) : D (List Int))) >>= fun (x213 : (List Int)) => (((up (appG x190.2 x213) : D (List Int)) >>= fun (x214 : (List Int)) => evD (g__law_octets (f_read_integer [.d ((eT eInt) (x214)), .d (eInt ((x190.2.length : Int)))]))) >>= fun (x216 : PD) => (((pure (x216) : D PD) >>= fun x217 => (pure ((("bytes" : Str), (x190.2.length : Int), ("integer" : Str))) : D (Str × Int × Str)) >>= fun x218 => (up (neP ((id : PD → PD) x217) ((eP3 eR eInt eR) x218)) : D Bool)) >>= fun x279 => if x279 = true then ((pure (false) : D Bool) >>= fun x219 => (pure (.rt x219) : D (Out Unit Unit Bool))) else ((((tkD 20 >>= fun x220 => (up (range1 x220) : D (List Int))) >>= fun x222 => (up (gd (x222.length ≤ sizeLine) ()) : D Unit) >>= fun _ => lcY (fun (x221 : Int) => tkD 256) x222) >>= fun x223 => (pure (x223) : D (List Int))) >>= fun (x225 : (List Int)) => ((up (t__law_sealed x225) : D (List Int)) >>= fun (x227 : (List Int)) => (((((((up (t_check_of x225) : D Int) >>= fun x230 => ((up (t_sealed x225) : D (List Int)) >>= fun x228 => (up (t_is_sealed x227) : D Bool) >>= fun x229 => (pure (x228, x229) : D ((List Int) × Bool))) >>= fun x231 => (pure (x230, x231) : D (Int × ((List Int) × Bool)))) >>= fun (x232 : (Int × ((List Int) × Bool))) => (pure ((x232.1, x232.2.1, x232.2.2)) : D (Int × (List Int) × Bool))) >>= fun x234 => ((up (t__law_check x225) : D Int) >>= fun (x233 : Int) => (pure ((x233, x227, true)) : D (Int × (List Int) × Bool))) >>= fun x235 => (pure (x234, x235) : D ((Int × (List Int) × Bool) × (Int × (List Int) × Bool)))) >>= fun (x236 : ((Int × (List Int) × Bool) × (Int × (List Int) × Bool))) => (up (gdc (alkP f__law_alike ((eQ3 eInt (eT eInt) eBool) x236.1) ((eQ3 eInt (eT eInt) eBool) x236.2)) true) : D Bool)) >>= fun x237 => (pure (!x237) : D Bool)) >>= fun x278 => if x278 = true then ((pure (false) : D Bool) >>= fun x238 => (pure (.rt x238) : D (Out Unit Unit Bool))) else ((tkD (x227.length : Int) >>= fun x241 => ((pure (1) : D Int) >>= fun x239 => tkD 3 >>= fun x240 => (pure (x239 + x240) : D Int)) >>= fun x242 => (pure (x241, x242) : D (Int × Int))) >>= fun (x243 : (Int × Int)) => ((pure (x227) : D (List Int)) >>= fun (x244 : (List Int)) => (((((pure (x243.1) : D Int) >>= fun x245 => (pure ((min2I (x243.1 + x243.2) (x227.length : Int))) : D Int) >>= fun x246 => (pure (x245, x246) : D (Int × Int))) >>= fun x247 => (up (range2 x247.1 x247.2) : D (List Int))) >>= fun x262 => foldM' (fun (x260 : (List Int)) (x261 : Int) => (t_law_b1  x260 x261)) x262 x244) >>= fun (x273 : (List Int)) => (((up (t_is_sealed x273) : D Bool) >>= fun x274 => (pure (false) : D Bool) >>= fun x275 => (pure (!decide (x274 = x275)) : D Bool)) >>= fun x277 => if x277 = true then ((pure (false) : D Bool) >>= fun x276 => (pure (.rt x276) : D (Out Unit Unit Bool))) else (pure (.nx ()) : D (Out Unit Unit Bool)))))))))))) else ((((tkD 20 >>= fun x280 => (up (range1 x280) : D (List Int))) >>= fun x282 => (up (gd (x282.length ≤ sizeLine) ()) : D Unit) >>= fun _ => lcY (fun (x281 : Int) => tkD 256) x282) >>= fun x283 => (pure (x283) : D (List Int))) >>= fun (x285 : (List Int)) => ((up (t__law_sealed x285) : D (List Int)) >>= fun (x287 : (List Int)) => (((((((up (t_check_of x285) : D Int) >>= fun x290 => ((up (t_sealed x285) : D (List Int)) >>= fun x288 => (up (t_is_sealed x287) : D Bool) >>= fun x289 => (pure (x288, x289) : D ((List Int) × Bool))) >>= fun x291 => (pure (x290, x291) : D (Int × ((List Int) × Bool)))) >>= fun (x292 : (Int × ((List Int) × Bool))) => (pure ((x292.1, x292.2.1, x292.2.2)) : D (Int × (List Int) × Bool))) >>= fun x294 => ((up (t__law_check x285) : D Int) >>= fun (x293 : Int) => (pure ((x293, x287, true)) : D (Int × (List Int) × Bool))) >>= fun x295 => (pure (x294, x295) : D ((Int × (List Int) × Bool) × (Int × (List Int) × Bool)))) >>= fun (x296 : ((Int × (List Int) × Bool) × (Int × (List Int) × Bool))) => (up (gdc (alkP f__law_alike ((eQ3 eInt (eT eInt) eBool) x296.1) ((eQ3 eInt (eT eInt) eBool) x296.2)) true) : D Bool)) >>= fun x297 => (pure (!x297) : D Bool)) >>= fun x338 => if x338 = true then ((pure (false) : D Bool) >>= fun x298 => (pure (.rt x298) : D (Out Unit Unit Bool))) else ((tkD (x287.length : Int) >>= fun x301 => ((pure (1) : D Int) >>= fun x299 => tkD 3 >>= fun x300 => (pure (x299 + x300) : D Int)) >>= fun x302 => (pure (x301, x302) : D (Int × Int))) >>= fun (x303 : (Int × Int)) => ((pure (x287) : D (List Int)) >>= fun (x304 : (List Int)) => (((((pure (x303.1) : D Int) >>= fun x305 => (pure ((min2I (x303.1 + x303.2) (x287.length : Int))) : D Int) >>= fun x306 => (pure (x305, x306) : D (Int × Int))) >>= fun x307 => (up (range2 x307.1 x307.2) : D (List Int))) >>= fun x322 => foldM' (fun (x320 : (List Int)) (x321 : Int) => (t_law_b2  x320 x321)) x322 x304) >>= fun (x333 : (List Int)) => (((up (t_is_sealed x333) : D Bool) >>= fun x334 => (pure (false) : D Bool) >>= fun x335 => (pure (!decide (x334 = x335)) : D Bool)) >>= fun x337 => if x337 = true then ((pure (false) : D Bool) >>= fun x336 => (pure (.rt x336) : D (Out Unit Unit Bool))) else (pure (.nx ()) : D (Out Unit Unit Bool)))))))))))))))
theorem t_law_b3_ok  (x167 : Unit) (x168 : Int) : SJ 15 [(2, some (.d (eInt x168))), (1, some .bag)] (mSeq ml_0 (mSeq ml_1 (mSeq ml_3 (mSeq ml_4 (mSeq ml_6 (mSeq ml_11 (mSeq ml_12 (mSeq ml_13 (mSeq ml_15 (mSeq ml_16 (mSeq ml_17 (mSeq ml_19 (mFz 12 ml_21))))))))))))) (t_law_b3  x167 x168) (fun (x167 : Unit) => [(1, some .bag)]) (fun (x167 : Unit) => [(1, some .bag)]) eBool := by
  unfold t_law_b3 ml_21 ml_20 ml_19 ml_17 ml_16 ml_15 ml_14 ml_13 ml_12 ml_11 ml_10 ml_9 ml_8 ml_7 ml_6 ml_5 ml_4 ml_3 ml_2 ml_1 ml_0
  exact (n_seqO (n_set (j_call (F := fun (x179 : (List Int)) => smD eInt x179) (j_consT (t_bag rfl) (j_cons1 (j_g (j_map (e' := (eL eInt)) (F := fun (x178 : (Int × (Int × Int))) => [x178.1, x178.2.1, 127, 128, 16384, x178.2.2]) (j_lst (ds := fun (x178 : (Int × (Int × Int))) => [eInt (x178.1), eInt (x178.2.1), eInt (127), eInt (128), eInt (16384), eInt (x178.2.2)]) (j_cons (j_g (j_callT (t_cons (t_bag rfl) (t_cons (t_g (t_c (d := eInt 200))) t_nil)) rfl (tkD_ok 200))) (j_cons (j_g (j_call (F := fun (x170 : Int) => tkD x170) (j_consT (t_bag rfl) (j_cons1 (j_g (j_opP (M := D) (F := powG 10 9) (ec := eInt) (t_c (d := eInt 10)) (t_c (d := eInt 9)) (fun c h => pow_int 10 9 c h))) t_nil)) (fun _ => rfl) (fun (x170 : Int) => (tkD_ok x170)))) (j_consT (t_g (t_c (d := eInt 127))) (j_consT (t_g (t_c (d := eInt 128))) (j_consT (t_g (t_c (d := eInt 16384))) (j_cons1 (j_g (j_opT (F := fun (x172 : Int) (x173 : Int) => x172 + x173) (ec := eInt) (j_opP (M := D) (F := powG 10 60) (ec := eInt) (t_c (d := eInt 10)) (t_c (d := eInt 60)) (fun c h => pow_int 10 60 c h)) (j_call (F := fun (x171 : Int) => tkD x171) (j_consT (t_bag rfl) (j_cons1 (j_g (j_opP (M := D) (F := powG 10 9) (ec := eInt) (t_c (d := eInt 10)) (t_c (d := eInt 9)) (fun c h => pow_int 10 9 c h))) t_nil)) (fun _ => rfl) (fun (x171 : Int) => (tkD_ok x171))) (fun x y => add_int x y))) t_nil)))))) (fun _ => rfl) (fun _ => szS (k := 6) (by decide))) (fun _ => rfl))) t_nil)) (fun _ => rfl) (fun (x179 : (List Int)) => (smD_ok (e := eInt) x179))) (fun x180 => (tg_name (by decide)))) (fun x181 => (n_seqO (n_set (j_map (e' := (eP2 (eT eInt) (eT eInt))) (F := fun (x188 : ((List Int) × (List Int))) => (x188.1, x188.2)) (j_tup (ds := fun (x188 : ((List Int) × (List Int))) => [(eT eInt) (x188.1), (eT eInt) (x188.2)]) (j_cons (j_g (j_callT (t_cons (t_g (t_var (x := eInt x181) rfl)) t_nil) rfl (FJ.up (t__law_integer_ok x181)))) (j_cons1 (j_g (j_caT (F := fun (x185 : (List Int)) => x185) (eb := (eT eInt)) (j_cons1 (j_g (j_lcY (enc := eInt) (fM := (fun (x183 : Int) => tkD 256)) (eb := eInt) (j_range1 (F := fun (x182 : Int) => x182) (j_cons1 (j_g (j_callT (t_cons (t_bag rfl) (t_cons (t_g (t_c (d := eInt 5))) t_nil)) rfl (tkD_ok 5))) t_nil) (fun _ => rfl)) (fun x183 => (tg_name (by decide))) (fun x183 => (j_callT (t_cons (t_bag rfl) (t_cons (t_g (t_c (d := eInt 256))) t_nil)) rfl (tkD_ok 256))))) t_nil) (fun a => tup_L eInt a))) t_nil)) (fun _ => rfl) (fun _ => szS (k := 2) (by decide))) (fun _ => rfl)) (fun x189 => (tg_tup (tg_cons (tg_name (by decide)) (tg_cons (tg_name (by decide)) tg_nil)) rfl))) (fun x190 => (os_ifM (j_not (j_tru (j_call (F := fun (x197 : ((List Int) × (Int × Int))) => (up (gdc (alkP f__law_alike ((eQ2 (eT eInt) (eP2 eInt eInt)) x197) ((eQ2 (eT eInt) (eP2 eInt eInt)) (x190.1, (x181, ((x190.2.length : Int) + (x190.1.length : Int)))))) true) : D Bool)) (j_cons1 (j_g (j_map (e' := (eQ2 (eT eInt) (eP2 eInt eInt))) (F := fun (x196 : ((List Int) × (Int × Int))) => (x196.1, x196.2)) (j_lst (ds := fun (x196 : ((List Int) × (Int × Int))) => [(eT eInt) (x196.1), (eP2 eInt eInt) (x196.2)]) (j_cons (j_g (j_callT (t_cons (t_g (t_var (x := eInt x181) rfl)) t_nil) rfl (FJ.up (t_integer_octets_ok x181)))) (j_cons1 (j_g (j_callE (F := fun (x193 : (List Int)) => (up (t_read_integer x193 (x190.2.length : Int)) : D (Int × Int))) (j_cons1 (j_g (j_op (F := fun (x191 : (List Int)) (x192 : (List Int)) => appG x191 x192) (ec := (eT eInt)) (j_opP (M := D) (F := appG x190.2 x190.1) (ec := (eT eInt)) (t_var (x := (eT eInt) x190.2) rfl) (t_var (x := (eT eInt) x190.1) rfl) (fun c h => add_T eInt x190.2 x190.1 c h)) (T.j (M := D) (e := (eT eInt)) (a := [5]) (t_tup (t_cons (t_g (t_c (d := eInt 5))) t_nil) rfl (szS (k := 1) (by decide)))) (fun x y c h => add_T eInt x y c h))) (t_cons (t_g (t_ca (z := eInt (x190.2.length : Int)) (t_cons (t_g (t_var (x := (eT eInt) x190.2) rfl)) t_nil) (len_T eInt x190.2))) t_nil)) (fun _ => rfl) (fun (x193 : (List Int)) => (FJ.up (t_read_integer_ok x193 (x190.2.length : Int)))))) t_nil)) (fun _ => rfl) (fun _ => szS (k := 2) (by decide))) (fun _ => rfl))) (t_cons (t_g (t_lst (t_cons (t_g (t_var (x := (eT eInt) x190.1) rfl)) (t_cons (t_g (t_tup (t_cons (t_g (t_var (x := eInt x181) rfl)) (t_cons (t_g (t_op (t_ca (z := eInt (x190.2.length : Int)) (t_cons (t_g (t_var (x := (eT eInt) x190.2) rfl)) t_nil) (len_T eInt x190.2)) (t_ca (z := eInt (x190.1.length : Int)) (t_cons (t_g (t_var (x := (eT eInt) x190.1) rfl)) t_nil) (len_T eInt x190.1)) (add_int (x190.2.length : Int) (x190.1.length : Int)))) t_nil)) rfl (szS (k := 2) (by decide)))) t_nil)) rfl (szS (k := 2) (by decide)))) t_nil)) (fun _ => rfl) (fun (x197 : ((List Int) × (Int × Int))) => (FJ.up (fj_alk f__law_alike ((eQ2 (eT eInt) (eP2 eInt eInt)) x197) ((eQ2 (eT eInt) (eP2 eInt eInt)) (x190.1, (x181, ((x190.2.length : Int) + (x190.1.length : Int))))))))))) (os_ret (r_return (T.j (M := D) (e := eBool) (a := false) (t_c (d := eBool false))))) (os_skip (n_seqO (n_set (j_lamJ (sv := fun (x200 : (List Int)) => [.d ((eT eInt) (x200)), .d (eInt ((x190.2.length : Int)))]) (j_cons1 (j_g (j_opP (M := D) (F := appG x190.2 (cutP x190.1 none (some (-1)))) (ec := (eT eInt)) (t_var (x := (eT eInt) x190.2) rfl) (t_sl (t_var (x := (eT eInt) x190.1) rfl) t_noPart (t_part (t_neg (i := 1) (t_c (d := eInt 1)))) (sl_T eInt x190.1 none (some (-1)))) (fun c h => add_T eInt x190.2 (cutP x190.1 none (some (-1))) c h))) (t_cons (t_g (t_ca (z := eInt (x190.2.length : Int)) (t_cons (t_g (t_var (x := (eT eInt) x190.2) rfl)) t_nil) (len_T eInt x190.2))) t_nil)) (fun _ => rfl)) (fun x201 => (tg_name (by decide)))) (fun x202 => (os_ifM (j_cmpO (F := fun (x203 : PD) (x204 : (Str × Int × Str)) => neP ((id : PD → PD) x203) ((eP3 eR eInt eR) x204)) (T.j (M := D) (e := (id : PD → PD)) (a := x202) (t_var (x := (id : PD → PD) x202) rfl)) (T.j (M := D) (e := (eP3 eR eInt eR)) (a := (("bytes" : Str), (x190.2.length : Int), ("integer" : Str))) (t_tup (t_cons (t_g (t_c (d := eR ("bytes" : Str)))) (t_cons (t_g (t_ca (z := eInt (x190.2.length : Int)) (t_cons (t_g (t_var (x := (eT eInt) x190.2) rfl)) t_nil) (len_T eInt x190.2))) (t_cons (t_g (t_c (d := eR ("integer" : Str)))) t_nil))) rfl (szS (k := 3) (by decide)))) (fun _ _ _ h => h)) (os_ret (r_return (T.j (M := D) (e := eBool) (a := false) (t_c (d := eBool false))))) (os_skip (os_if (t_cmp (t_ca (z := eInt (x190.1.length : Int)) (t_cons (t_g (t_var (x := (eT eInt) x190.1) rfl)) t_nil) (len_T eInt x190.1)) (t_c (d := eInt 1)) (gt_int (x190.1.length : Int) 1)) (os_assoc (n_seqO (n_set (j_op (F := fun (x210 : (List Int)) (x211 : (List Int)) => appG x210 x211) (ec := (eT eInt)) (T.j (M := D) (e := (eT eInt)) (a := (cutP x190.1 none (some (-1)))) (t_sl (t_var (x := (eT eInt) x190.1) rfl) t_noPart (t_part (t_neg (i := 1) (t_c (d := eInt 1)))) (sl_T eInt x190.1 none (some (-1))))) (j_map (e' := (eT eInt)) (F := fun (x209 : Int) => [x209, 0]) (j_tup (ds := fun (x209 : Int) => [eInt (x209), eInt (0)]) (j_cons1 (j_g (j_opT (F := fun (x207 : Int) (x208 : Int) => x207 + x208) (ec := eInt) (j_caT (F := fun (x206 : Int) => x206) (eb := eInt) (j_cons1 (j_g (j_opP (M := D) (F := atI x190.1 (-1)) (ec := eInt) (t_var (x := (eT eInt) x190.1) rfl) (t_neg (i := 1) (t_c (d := eInt 1))) (fun c h => ix_T eInt x190.1 (-1) c h))) t_nil) (fun a => int_int a)) (T.j (M := D) (e := eInt) (a := 128) (t_c (d := eInt 128))) (fun x y => add_int x y))) (t_cons (t_g (t_c (d := eInt 0))) t_nil)) (fun _ => rfl) (fun _ => szS (k := 2) (by decide))) (fun _ => rfl)) (fun x y c h => add_T eInt x y c h)) (fun x212 => (tg_name (by decide)))) (fun x213 => (os_assoc (n_seqO (n_set (j_lamJ (sv := fun (x214 : (List Int)) => [.d ((eT eInt) (x214)), .d (eInt ((x190.2.length : Int)))]) (j_cons1 (j_g (j_opP (M := D) (F := appG x190.2 x213) (ec := (eT eInt)) (t_var (x := (eT eInt) x190.2) rfl) (t_var (x := (eT eInt) x213) rfl) (fun c h => add_T eInt x190.2 x213 c h))) (t_cons (t_g (t_ca (z := eInt (x190.2.length : Int)) (t_cons (t_g (t_var (x := (eT eInt) x190.2) rfl)) t_nil) (len_T eInt x190.2))) t_nil)) (fun _ => rfl)) (fun x215 => (tg_name (by decide)))) (fun x216 => (os_ifM (j_cmpO (F := fun (x217 : PD) (x218 : (Str × Int × Str)) => neP ((id : PD → PD) x217) ((eP3 eR eInt eR) x218)) (T.j (M := D) (e := (id : PD → PD)) (a := x216) (t_var (x := (id : PD → PD) x216) rfl)) (T.j (M := D) (e := (eP3 eR eInt eR)) (a := (("bytes" : Str), (x190.2.length : Int), ("integer" : Str))) (t_tup (t_cons (t_g (t_c (d := eR ("bytes" : Str)))) (t_cons (t_g (t_ca (z := eInt (x190.2.length : Int)) (t_cons (t_g (t_var (x := (eT eInt) x190.2) rfl)) t_nil) (len_T eInt x190.2))) (t_cons (t_g (t_c (d := eR ("integer" : Str)))) t_nil))) rfl (szS (k := 3) (by decide)))) (fun _ _ _ h => h)) (os_ret (r_return (T.j (M := D) (e := eBool) (a := false) (t_c (d := eBool false))))) (os_skip (n_seqO (n_set (j_caT (F := fun (x223 : (List Int)) => x223) (eb := (eT eInt)) (j_cons1 (j_g (j_lcY (enc := eInt) (fM := (fun (x221 : Int) => tkD 256)) (eb := eInt) (j_range1 (F := fun (x220 : Int) => x220) (j_cons1 (j_g (j_callT (t_cons (t_bag rfl) (t_cons (t_g (t_c (d := eInt 20))) t_nil)) rfl (tkD_ok 20))) t_nil) (fun _ => rfl)) (fun x221 => (tg_name (by decide))) (fun x221 => (j_callT (t_cons (t_bag rfl) (t_cons (t_g (t_c (d := eInt 256))) t_nil)) rfl (tkD_ok 256))))) t_nil) (fun a => tup_L eInt a)) (fun x224 => (tg_name (by decide)))) (fun x225 => (n_seqO (n_set (j_callT (t_cons (t_g (t_var (x := (eT eInt) x225) rfl)) t_nil) rfl (FJ.up (t__law_sealed_ok x225))) (fun x226 => (tg_name (by decide)))) (fun x227 => (os_ifM (j_not (j_tru (j_call (F := fun (x236 : ((Int × (List Int) × Bool) × (Int × (List Int) × Bool))) => (up (gdc (alkP f__law_alike ((eQ3 eInt (eT eInt) eBool) x236.1) ((eQ3 eInt (eT eInt) eBool) x236.2)) true) : D Bool)) (j_cons (j_g (j_map (e' := (eQ3 eInt (eT eInt) eBool)) (F := fun (x232 : (Int × ((List Int) × Bool))) => (x232.1, x232.2.1, x232.2.2)) (j_lst (ds := fun (x232 : (Int × ((List Int) × Bool))) => [eInt (x232.1), (eT eInt) (x232.2.1), eBool (x232.2.2)]) (j_cons (j_g (j_callT (t_cons (t_g (t_var (x := (eT eInt) x225) rfl)) t_nil) rfl (FJ.up (t_check_of_ok x225)))) (j_cons (j_g (j_callT (t_cons (t_g (t_var (x := (eT eInt) x225) rfl)) t_nil) rfl (FJ.up (t_sealed_ok x225)))) (j_cons1 (j_g (j_callT (t_cons (t_g (t_var (x := (eT eInt) x227) rfl)) t_nil) rfl (FJ.up (t_is_sealed_ok x227)))) t_nil))) (fun _ => rfl) (fun _ => szS (k := 3) (by decide))) (fun _ => rfl))) (j_cons1 (j_g (j_map (e' := (eQ3 eInt (eT eInt) eBool)) (F := fun (x233 : Int) => (x233, x227, true)) (j_lst (ds := fun (x233 : Int) => [eInt (x233), (eT eInt) (x227), eBool (true)]) (j_cons1 (j_g (j_callT (t_cons (t_g (t_var (x := (eT eInt) x225) rfl)) t_nil) rfl (FJ.up (t__law_check_ok x225)))) (t_cons (t_g (t_var (x := (eT eInt) x227) rfl)) (t_cons (t_g (t_c (d := eBool true))) t_nil))) (fun _ => rfl) (fun _ => szS (k := 3) (by decide))) (fun _ => rfl))) t_nil)) (fun _ => rfl) (fun (x236 : ((Int × (List Int) × Bool) × (Int × (List Int) × Bool))) => (FJ.up (fj_alk f__law_alike ((eQ3 eInt (eT eInt) eBool) x236.1) ((eQ3 eInt (eT eInt) eBool) x236.2))))))) (os_ret (r_return (T.j (M := D) (e := eBool) (a := false) (t_c (d := eBool false))))) (os_skip (n_seqO (n_par (j_cons (j_g (j_callT (t_cons (t_bag rfl) (t_cons (t_g (t_ca (z := eInt (x227.length : Int)) (t_cons (t_g (t_var (x := (eT eInt) x227) rfl)) t_nil) (len_T eInt x227))) t_nil)) rfl (tkD_ok (x227.length : Int)))) (j_cons1 (j_g (j_opT (F := fun (x239 : Int) (x240 : Int) => x239 + x240) (ec := eInt) (T.j (M := D) (e := eInt) (a := 1) (t_c (d := eInt 1))) (j_callT (t_cons (t_bag rfl) (t_cons (t_g (t_c (d := eInt 3))) t_nil)) rfl (tkD_ok 3)) (fun x y => add_int x y))) t_nil)) (fun _ => rfl) (by decide) (by decide)) (fun x243 => (n_seqO (n_setM (j_mlist (ds := fun xs => List.map eInt xs) (j_cons1 (j_g (T.j (M := D) (e := (eT eInt)) (a := x227) (t_var (x := (eT eInt) x227) rfl))) t_nil) (fun _ => Or.inr rfl)) (by decide)) (fun x244 => (n_seqO (n_for (enc := eInt) (ΓI := fun (x260 : (List Int)) => [(1, some .bag), (12, some (.own (List.map eInt x260)))]) (F := (fun (x260 : (List Int)) (x261 : Int) => (t_law_b1  x260 x261))) (s0 := x244) (j_range2 (F := fun (x247 : (Int × Int)) => x247.1) (G := fun (x247 : (Int × Int)) => x247.2) (j_cons (j_g (T.j (M := D) (e := eInt) (a := x243.1) (t_var (x := eInt x243.1) rfl))) (j_cons1 (j_g (T.j (M := D) (e := eInt) (a := (min2I (x243.1 + x243.2) (x227.length : Int))) (t_ca (z := eInt (min2I (x243.1 + x243.2) (x227.length : Int))) (t_cons (t_g (t_op (t_var (x := eInt x243.1) rfl) (t_var (x := eInt x243.2) rfl) (add_int x243.1 x243.2))) (t_cons (t_g (t_ca (z := eInt (x227.length : Int)) (t_cons (t_g (t_var (x := (eT eInt) x227) rfl)) t_nil) (len_T eInt x227))) t_nil)) (min_int (x243.1 + x243.2) (x227.length : Int))))) t_nil)) (fun _ => rfl)) (Sb.cons rfl (Sb.cons rfl Sb.nil)) (fun x261 => (tg_name (by decide))) (fun x260 x261 => (t_law_b1_ok  x260 x261))) (fun x273 => (o_fz (xs := List.map eInt x273) rfl (o_ifM (j_cmp (F := fun (x274 : Bool) (x275 : Bool) => !decide (x274 = x275)) (j_callT (t_cons (t_g (t_ca (z := (eT eInt) x273) (t_cons (t_g (t_var (x := (eL eInt) x273) rfl)) t_nil) (tup_L eInt x273))) t_nil) rfl (FJ.up (t_is_sealed_ok x273))) (T.j (M := D) (e := eBool) (a := false) (t_c (d := eBool false))) (fun x y => isn_bool x y)) (o_r (r_return (T.j (M := D) (e := eBool) (a := false) (t_c (d := eBool false))))) (o_nx (M := D) (s := ()) (Sb.cons rfl Sb.nil)))))))))))))))))))))))) (os_skip (n_seqO (n_set (j_caT (F := fun (x283 : (List Int)) => x283) (eb := (eT eInt)) (j_cons1 (j_g (j_lcY (enc := eInt) (fM := (fun (x281 : Int) => tkD 256)) (eb := eInt) (j_range1 (F := fun (x280 : Int) => x280) (j_cons1 (j_g (j_callT (t_cons (t_bag rfl) (t_cons (t_g (t_c (d := eInt 20))) t_nil)) rfl (tkD_ok 20))) t_nil) (fun _ => rfl)) (fun x281 => (tg_name (by decide))) (fun x281 => (j_callT (t_cons (t_bag rfl) (t_cons (t_g (t_c (d := eInt 256))) t_nil)) rfl (tkD_ok 256))))) t_nil) (fun a => tup_L eInt a)) (fun x284 => (tg_name (by decide)))) (fun x285 => (n_seqO (n_set (j_callT (t_cons (t_g (t_var (x := (eT eInt) x285) rfl)) t_nil) rfl (FJ.up (t__law_sealed_ok x285))) (fun x286 => (tg_name (by decide)))) (fun x287 => (os_ifM (j_not (j_tru (j_call (F := fun (x296 : ((Int × (List Int) × Bool) × (Int × (List Int) × Bool))) => (up (gdc (alkP f__law_alike ((eQ3 eInt (eT eInt) eBool) x296.1) ((eQ3 eInt (eT eInt) eBool) x296.2)) true) : D Bool)) (j_cons (j_g (j_map (e' := (eQ3 eInt (eT eInt) eBool)) (F := fun (x292 : (Int × ((List Int) × Bool))) => (x292.1, x292.2.1, x292.2.2)) (j_lst (ds := fun (x292 : (Int × ((List Int) × Bool))) => [eInt (x292.1), (eT eInt) (x292.2.1), eBool (x292.2.2)]) (j_cons (j_g (j_callT (t_cons (t_g (t_var (x := (eT eInt) x285) rfl)) t_nil) rfl (FJ.up (t_check_of_ok x285)))) (j_cons (j_g (j_callT (t_cons (t_g (t_var (x := (eT eInt) x285) rfl)) t_nil) rfl (FJ.up (t_sealed_ok x285)))) (j_cons1 (j_g (j_callT (t_cons (t_g (t_var (x := (eT eInt) x287) rfl)) t_nil) rfl (FJ.up (t_is_sealed_ok x287)))) t_nil))) (fun _ => rfl) (fun _ => szS (k := 3) (by decide))) (fun _ => rfl))) (j_cons1 (j_g (j_map (e' := (eQ3 eInt (eT eInt) eBool)) (F := fun (x293 : Int) => (x293, x287, true)) (j_lst (ds := fun (x293 : Int) => [eInt (x293), (eT eInt) (x287), eBool (true)]) (j_cons1 (j_g (j_callT (t_cons (t_g (t_var (x := (eT eInt) x285) rfl)) t_nil) rfl (FJ.up (t__law_check_ok x285)))) (t_cons (t_g (t_var (x := (eT eInt) x287) rfl)) (t_cons (t_g (t_c (d := eBool true))) t_nil))) (fun _ => rfl) (fun _ => szS (k := 3) (by decide))) (fun _ => rfl))) t_nil)) (fun _ => rfl) (fun (x296 : ((Int × (List Int) × Bool) × (Int × (List Int) × Bool))) => (FJ.up (fj_alk f__law_alike ((eQ3 eInt (eT eInt) eBool) x296.1) ((eQ3 eInt (eT eInt) eBool) x296.2))))))) (os_ret (r_return (T.j (M := D) (e := eBool) (a := false) (t_c (d := eBool false))))) (os_skip (n_seqO (n_par (j_cons (j_g (j_callT (t_cons (t_bag rfl) (t_cons (t_g (t_ca (z := eInt (x287.length : Int)) (t_cons (t_g (t_var (x := (eT eInt) x287) rfl)) t_nil) (len_T eInt x287))) t_nil)) rfl (tkD_ok (x287.length : Int)))) (j_cons1 (j_g (j_opT (F := fun (x299 : Int) (x300 : Int) => x299 + x300) (ec := eInt) (T.j (M := D) (e := eInt) (a := 1) (t_c (d := eInt 1))) (j_callT (t_cons (t_bag rfl) (t_cons (t_g (t_c (d := eInt 3))) t_nil)) rfl (tkD_ok 3)) (fun x y => add_int x y))) t_nil)) (fun _ => rfl) (by decide) (by decide)) (fun x303 => (n_seqO (n_setM (j_mlist (ds := fun xs => List.map eInt xs) (j_cons1 (j_g (T.j (M := D) (e := (eT eInt)) (a := x287) (t_var (x := (eT eInt) x287) rfl))) t_nil) (fun _ => Or.inr rfl)) (by decide)) (fun x304 => (n_seqO (n_for (enc := eInt) (ΓI := fun (x320 : (List Int)) => [(1, some .bag), (12, some (.own (List.map eInt x320)))]) (F := (fun (x320 : (List Int)) (x321 : Int) => (t_law_b2  x320 x321))) (s0 := x304) (j_range2 (F := fun (x307 : (Int × Int)) => x307.1) (G := fun (x307 : (Int × Int)) => x307.2) (j_cons (j_g (T.j (M := D) (e := eInt) (a := x303.1) (t_var (x := eInt x303.1) rfl))) (j_cons1 (j_g (T.j (M := D) (e := eInt) (a := (min2I (x303.1 + x303.2) (x287.length : Int))) (t_ca (z := eInt (min2I (x303.1 + x303.2) (x287.length : Int))) (t_cons (t_g (t_op (t_var (x := eInt x303.1) rfl) (t_var (x := eInt x303.2) rfl) (add_int x303.1 x303.2))) (t_cons (t_g (t_ca (z := eInt (x287.length : Int)) (t_cons (t_g (t_var (x := (eT eInt) x287) rfl)) t_nil) (len_T eInt x287))) t_nil)) (min_int (x303.1 + x303.2) (x287.length : Int))))) t_nil)) (fun _ => rfl)) (Sb.cons rfl (Sb.cons rfl Sb.nil)) (fun x321 => (tg_name (by decide))) (fun x320 x321 => (t_law_b2_ok  x320 x321))) (fun x333 => (o_fz (xs := List.map eInt x333) rfl (o_ifM (j_cmp (F := fun (x334 : Bool) (x335 : Bool) => !decide (x334 = x335)) (j_callT (t_cons (t_g (t_ca (z := (eT eInt) x333) (t_cons (t_g (t_var (x := (eL eInt) x333) rfl)) t_nil) (tup_L eInt x333))) t_nil) rfl (FJ.up (t_is_sealed_ok x333))) (T.j (M := D) (e := eBool) (a := false) (t_c (d := eBool false))) (fun x y => isn_bool x y)) (o_r (r_return (T.j (M := D) (e := eBool) (a := false) (t_c (d := eBool false))))) (o_nx (M := D) (s := ()) (Sb.cons rfl Sb.nil))))))))))))))))))))))))))))
noncomputable def t_law : D Bool :=
  (((up (range1 9) : D (List Int)) >>= fun x169 => (loopR (fun (x167 : Unit) (x168 : Int) => ((t_law_b3  x167 x168) : D (Out Unit Unit Bool))) x169 () : D (Out Unit Empty Bool))) >>= Out.onR (fun (x341 : Unit) => (pure (true) : D Bool)))
theorem t_law_ok {B B' : Bag} {r : Bool} (h : t_law B = some (r, B')) : m_law (envL 15 1) B = .ret (eBool r) B' := by
  refine law_ok (M := D) (P := t_law) ?_ (by decide) h
  unfold m_law ml_23 ml_22 t_law
  exact (o_seqR (Γ2 := fun e => e.elim) (o_for (enc := eInt) (er := eBool) (ΓI := fun (x167 : Unit) => [(1, some .bag)]) (F := (fun (x167 : Unit) (x168 : Int) => ((t_law_b3  x167 x168) : D (Out Unit Unit Bool)))) (s0 := ()) (j_range1P (M := D) (j := 9) (t_cons (t_g (t_c (d := eInt 9))) t_nil) rfl) (Sb.cons rfl Sb.nil) (fun x168 => (tg_name (by decide))) (fun x167 x168 => (t_law_b3_ok  x167 x168))) (fun x341 => (r_return (T.j (M := D) (e := eBool) (a := true) (t_c (d := eBool true))))))
end TL
set_option Elab.async false
set_option linter.all false
set_option maxRecDepth 100000
set_option maxHeartbeats 4000000
/-! UPA: what the defs of k38 tell: checks, octets. -/
namespace TL
open PySem L2 DL
open Rn (rn up)
/-! while, where nothing is drawn -/
section
variable {σ : Type} {c : σ → Option Bool} {F : σ → Option σ} {s s' r : σ}
theorem whO_end (h : c s = some false) : whileM c F s = some s := (rnO (while_end (B := ⟨0, 0, 0, []⟩) (rnO_of h))).1
theorem whO_turn (h : c s = some true) (h2 : F s = some s') (h3 : whileM c F s' = some r) : whileM c F s = some r := (rnO (while_turn (B := ⟨0, 0, 0, []⟩) (rnO_of h) (rnO_of h2) (rnO_of h3))).1
end
theorem modG_of {a b : Int} (h : b ≠ 0) (h0 : 0 ≤ b) : modG a b = some (a % b) := by
  have : modG a b = some (a.fmod b) := gd_of h
  rw [this, Int.fmod_eq_emod_of_nonneg a h0]
theorem fdivG_of {a b : Int} (h : 0 < b) (h2 : b.natAbs < 1073741824) : fdivG a b = some (a / b) := by
  have : fdivG a b = some (a.fdiv b) := gd_of ⟨by omega, h2⟩
  rw [this, Int.fdiv_eq_ediv_of_nonneg a (by omega)]
theorem shrG_of {a : Int} {b : Int} (h : 0 ≤ b) : shrG a b = some (a / 2 ^ b.toNat) := gd_of h
/-! ### checks -/
def stp (c x : Int) : Int := (c * 257 + x + 1) % 4294967291
def chk (c : Int) (xs : List Int) : Int := xs.foldl stp c
theorem stp_rng (c x : Int) : 0 ≤ stp c x ∧ stp c x < 4294967291 := by unfold stp; omega
theorem chk_rng : ∀ (xs : List Int) {c : Int}, 0 ≤ c → c < 4294967291 → 0 ≤ chk c xs ∧ chk c xs < 4294967291
  | [], c, h, h2 => ⟨h, h2⟩
  | x :: xs, c, h, h2 => chk_rng xs (stp_rng c x).1 (stp_rng c x).2
theorem chk_app (c : Int) (xs ys : List Int) : chk c (xs ++ ys) = chk (chk c xs) ys := by unfold chk; rw [List.foldl_append]
theorem lchk_b (c x : Int) : t__law_check_b1 c x = some (stp c x) := by
  unfold t__law_check_b1
  have h1 : mulG c 257 = some (c * 257) := mulG_of (.inr (by decide))
  simp only [up_O, h1, some_bind', pure_O, modG_of (b := 4294967291) (by decide) (by decide)]
  rfl
theorem pchk_b (c x : Int) : t_check_of_b1 c x = some (stp c x) := by
  unfold t_check_of_b1
  have h1 : mulG c 257 = some (c * 257) := mulG_of (.inr (by decide))
  simp only [up_O, h1, some_bind', pure_O, modG_of (b := 4294967291) (by decide) (by decide)]
  rfl
theorem fold_chk {F : Int → Int → Option Int} (h : ∀ c x, F c x = some (stp c x)) : ∀ (xs : List Int) (c : Int), foldM' F xs c = some (chk c xs)
  | [], c => rfl
  | x :: xs, c => by
    unfold foldM'
    rw [h, some_bind']
    exact fold_chk h xs (stp c x)
theorem lchk (xs : List Int) : t__law_check xs = some (chk 1 xs) := by
  unfold t__law_check
  simp only [pure_O, some_bind', fold_chk lchk_b]
theorem pchk (xs : List Int) : t_check_of xs = some (chk 1 xs) := by
  unfold t_check_of
  simp only [pure_O, some_bind', fold_chk pchk_b]
/-! ### sealed -/
def tail4 (c : Int) : List Int := [c / 16777216, c / 65536 % 256, c / 256 % 256, c % 256]
def sl (xs : List Int) : List Int := xs ++ tail4 (chk 1 xs)
theorem chk1 (xs : List Int) : 0 ≤ chk 1 xs ∧ chk 1 xs < 4294967291 := chk_rng xs (by decide) (by decide)
theorem and255 {x : Int} (h : 0 ≤ x) : Builtin.bitAnd x 255 = x % 256 := Bits.bitAnd_mask 8 h
theorem psea {xs : List Int} (hl : xs.length ≤ 1000) : t_sealed xs = some (sl xs) := by
  have hc := chk1 xs
  unfold t_sealed
  simp only [pchk, up_O, some_bind', pure_O, shrG_of (b := 24) (by decide), shrG_of (b := 16) (by decide), shrG_of (b := 8) (by decide)]
  have e1 : ((2 : Int) ^ (24 : Int).toNat) = 16777216 := rfl
  have e2 : ((2 : Int) ^ (16 : Int).toNat) = 65536 := rfl
  have e3 : ((2 : Int) ^ (8 : Int).toNat) = 256 := rfl
  rw [e1, e2, e3, and255 (by omega), and255 (by omega), and255 (by omega)]
  exact gd_of (szL (by simp; omega))
theorem lsea_b (a : List Int) (c : Int) (ys : List Int) (k : Int) (h : ys.length ≤ 1000) : t__law_sealed_b1 a (c, ys) k = some (c / 256, ys ++ [c % 256]) := by
  unfold t__law_sealed_b1
  have hg : ∀ v : Int, gd (ys.length < sizeLine) (ys ++ [v]) = some (ys ++ [v]) := fun v => gd_of (szl (by omega))
  simp only [up_O, some_bind', pure_O, modG_of (b := 256) (by decide) (by decide), fdivG_of (b := 256) (by decide) (by decide), hg]
theorem lsea {xs : List Int} (hl : xs.length ≤ 1000) : t__law_sealed xs = some (sl xs) := by
  have hc := chk1 xs
  unfold t__law_sealed
  simp only [lchk, up_O, some_bind', pure_O, range1_of (j := 4) (by decide) (by decide)]
  have e : rng 0 (4 : Int).toNat = [0, 1, 2, 3] := rfl
  rw [e]
  simp only [foldM', lsea_b _ _ _ _ (show ([] : List Int).length ≤ 1000 by decide), some_bind', pure_O, List.nil_append]
  rw [lsea_b _ _ _ _ (by simp), some_bind', lsea_b _ _ _ _ (by simp), some_bind', lsea_b _ _ _ _ (by simp), some_bind', some_bind']
  have e2 : ∀ c : Int, 0 ≤ c → c < 4294967291 → ([c % 256] ++ [c / 256 % 256] ++ [c / 256 / 256 % 256] ++ [c / 256 / 256 / 256 % 256]).reverse = tail4 c := fun c h1 h2 => by
    unfold tail4
    simp
    omega
  rw [e2 _ hc.1 hc.2]
  exact appG_ok (by simp [tail4]; omega)
theorem isse {ys : List Int} (hl : ys.length ≤ 1000) (h4 : 4 ≤ ys.length) : t_is_sealed ys = some (decide (sl (ys.take (ys.length - 4)) = ys)) := by
  unfold t_is_sealed
  have e1 : decide (4 ≤ (ys.length : Int)) = true := decide_eq_true (by omega)
  have e2 : ((ys.length : Int) - 4) = ((ys.length - 4 : Nat) : Int) := by omega
  simp only [e1, e2, cut_lo', pure_O, some_bind', if_true, psea (xs := ys.take (ys.length - 4)) (by rw [List.length_take]; omega)]
theorem isse_sl {xs : List Int} (hl : xs.length ≤ 900) : t_is_sealed (sl xs) = some true := by
  have h : (sl xs).length = xs.length + 4 := by unfold sl tail4; simp
  rw [isse (by omega) (by omega), h]
  have : (sl xs).take (xs.length + 4 - 4) = xs := by unfold sl; rw [Nat.add_sub_cancel, List.take_left]
  rw [this, decide_eq_true rfl]
/-! ### octets of integers -/
def octs (n : Nat) : List Int := if h : n < 128 then [(n : Int)] else (128 + ((n % 128 : Nat) : Int)) :: octs (n / 128)
theorem octs_lt {n : Nat} (h : n < 128) : octs n = [(n : Int)] := by rw [octs, dif_pos h]
theorem octs_ge {n : Nat} (h : ¬ n < 128) : octs n = (128 + ((n % 128 : Nat) : Int)) :: octs (n / 128) := by rw [octs, dif_neg h]
theorem octs_len : ∀ (k n : Nat), n < 128 ^ (k + 1) → (octs n).length ≤ k + 1
  | 0, n, h => by rw [octs_lt (by simpa using h)]; simp
  | k + 1, n, h => by
    by_cases c : n < 128
    · rw [octs_lt c]; simp
    · rw [octs_ge c, List.length_cons]
      have := octs_len k (n / 128) (by
        rw [Nat.div_lt_iff_lt_mul (by decide)]
        rw [Nat.pow_succ] at h
        exact h)
      omega
theorem octs_split : ∀ n : Nat, ∃ hs x, octs n = hs ++ [x] ∧ (∀ y ∈ hs, 128 ≤ y ∧ y < 256) ∧ 0 ≤ x ∧ x < 128 ∧ (hs ≠ [] → x ≠ 0) := fun n => by
  induction n using Nat.strongRecOn with
  | _ n ih =>
    by_cases c : n < 128
    · exact ⟨[], (n : Int), (by rw [octs_lt c]; rfl), ⟨(fun y hy => by cases hy), by omega, by omega, fun h => absurd rfl h⟩⟩
    · obtain ⟨hs, x, e, h1, h2, h3, h4⟩ := ih (n / 128) (by omega)
      refine ⟨(128 + ((n % 128 : Nat) : Int)) :: hs, x, (by rw [octs_ge c, e]; rfl), fun y hy => ?_, h2, h3, fun _ => ?_⟩
      · rcases List.mem_cons.mp hy with rfl | hy
        · omega
        · exact h1 y hy
      · by_cases z : hs = []
        · subst z
          by_cases c2 : n / 128 < 128
          · rw [octs_lt c2] at e
            have : x = ((n / 128 : Nat) : Int) := by simpa using e.symm
            omega
          · rw [octs_ge c2] at e
            have e3 := congrArg List.length e
            by_cases c3 : n / 128 / 128 < 128
            · rw [octs_lt c3] at e3; simp at e3
            · rw [octs_ge c3] at e3; simp at e3
        · exact h4 z
theorem pint_wh : ∀ (n : Nat) (acc : List Int), acc.length + (octs n).length ≤ 1000 → ∃ v ys, whileM (fun (x7 : (Int × (List Int))) => (pure ((decide (128 ≤ x7.1))) : Option Bool)) (fun (x7 : (Int × (List Int))) => (t_integer_octets_b1 x7)) ((n : Int), acc) = some (v, ys) ∧ ys ++ [v] = acc ++ octs n := fun n => by
  induction n using Nat.strongRecOn with
  | _ n ih =>
    intro acc hl
    by_cases c : n < 128
    · exact ⟨n, acc, whO_end (by show some (decide (128 ≤ (n : Int))) = some false; rw [decide_eq_false (by omega)]), by rw [octs_lt c]⟩
    · rw [octs_ge c, List.length_cons] at hl
      obtain ⟨v, ys, h1, h2⟩ := ih (n / 128) (by omega) (acc ++ [128 + ((n % 128 : Nat) : Int)]) (by rw [List.length_append]; simp; omega)
      refine ⟨v, ys, whO_turn (by show some (decide (128 ≤ (n : Int))) = some true; rw [decide_eq_true (by omega)]) ?_ h1, by rw [h2, octs_ge c, List.append_assoc]; rfl⟩
      unfold t_integer_octets_b1
      have hg : ∀ v : Int, gd (acc.length < sizeLine) (acc ++ [v]) = some (acc ++ [v]) := fun v => gd_of (szl (by omega))
      have ea : Builtin.bitAnd (n : Int) (128 - 1) = ((n % 128 : Nat) : Int) := by
        have := Bits.bitAnd_mask (x := (n : Int)) 7 (by omega)
        rw [show ((2 : Int) ^ 7 - 1) = 128 - 1 from rfl, show ((2 : Int) ^ 7) = 128 from rfl] at this
        rw [this]; omega
      have es : ((n : Int) / 2 ^ (7 : Int).toNat) = ((n / 128 : Nat) : Int) := by
        rw [show ((2 : Int) ^ (7 : Int).toNat) = 128 from rfl]; omega
      simp only [up_O, some_bind', pure_O, hg, shrG_of (b := 7) (by decide), ea, es]
theorem pint {n : Nat} (h : (octs n).length ≤ 1000) : t_integer_octets (n : Int) = some (octs n) := by
  obtain ⟨v, ys, h1, h2⟩ := pint_wh n [] (by simpa using h)
  unfold t_integer_octets
  simp only [pure_O, some_bind'] at h1 ⊢
  rw [h1]
  simp only [some_bind', up_O]
  rw [show ys ++ v :: [] = octs n from by rw [h2, List.nil_append]]
  exact gd_of (szL (by omega))
theorem lint_wh : ∀ (n : Nat) (acc : List Int), acc.length + (octs n).length ≤ 1000 → ∃ v ys, whileM (fun (x9 : (Int × (List Int))) => (pure ((decide (127 < x9.1))) : Option Bool)) (fun (x9 : (Int × (List Int))) => (t__law_integer_b1 x9)) ((n : Int), acc) = some (v, ys) ∧ ys ++ [v] = acc ++ octs n := fun n => by
  induction n using Nat.strongRecOn with
  | _ n ih =>
    intro acc hl
    by_cases c : n < 128
    · exact ⟨n, acc, whO_end (by show some (decide (127 < (n : Int))) = some false; rw [decide_eq_false (by omega)]), by rw [octs_lt c]⟩
    · rw [octs_ge c, List.length_cons] at hl
      obtain ⟨v, ys, h1, h2⟩ := ih (n / 128) (by omega) (acc ++ [128 + ((n % 128 : Nat) : Int)]) (by rw [List.length_append]; simp; omega)
      refine ⟨v, ys, whO_turn (by show some (decide (127 < (n : Int))) = some true; rw [decide_eq_true (by omega)]) ?_ h1, by rw [h2, octs_ge c, List.append_assoc]; rfl⟩
      unfold t__law_integer_b1
      have hg : ∀ v : Int, gd (acc.length < sizeLine) (acc ++ [v]) = some (acc ++ [v]) := fun v => gd_of (szl (by omega))
      have ea : (n : Int) % 128 = ((n % 128 : Nat) : Int) := by omega
      have es : (n : Int) / 128 = ((n / 128 : Nat) : Int) := by omega
      simp only [up_O, some_bind', pure_O, modG_of (b := 128) (by decide) (by decide), fdivG_of (b := 128) (by decide) (by decide), hg, ea, es]
theorem lint {n : Nat} (h : (octs n).length ≤ 1000) : t__law_integer (n : Int) = some (octs n) := by
  obtain ⟨v, ys, h1, h2⟩ := lint_wh n [] (by simpa using h)
  unfold t__law_integer
  simp only [pure_O, some_bind'] at h1 ⊢
  rw [h1]
  have e : ys ++ [v] = octs n := by rw [h2, List.nil_append]
  have e2 : appG ys [v] = some (octs n) := by rw [← e]; exact appG_ok (by rw [← e] at h; rw [List.length_append] at h; omega)
  simp only [some_bind', up_O, e2]
end TL
set_option Elab.async false
set_option linter.all false
set_option maxRecDepth 100000
set_option maxHeartbeats 4000000
/-! UPB: read_integer. -/
namespace TL
open PySem L2 DL
open Rn (rn up)
/-! ### bits -/
def bt (x : Int) : List Nat := [0, 1, 2, 3, 4, 5, 6].map fun k : Nat => if Builtin.bitAnd x (64 / 2 ^ k) = 0 then 48 else 49
theorem bt_len (x : Int) : (bt x).length = 7 := rfl
theorem bt_bin (x : Int) : ∀ c ∈ bt x, c = 48 ∨ c = 49 := fun c h => by
  unfold bt at h
  obtain ⟨k, _, rfl⟩ := List.mem_map.mp h
  by_cases z : Builtin.bitAnd x (64 / 2 ^ k) = 0
  · rw [if_pos z]; exact .inl rfl
  · rw [if_neg z]; exact .inr rfl
theorem bt_num_all : ∀ i : Fin 256, Bx.binNum (bt ((i.val : Nat) : Int)) = i.val % 128 := by decide +kernel
theorem bt_num {x : Int} (h0 : 0 ≤ x) (h : x < 256) : (Bx.binNum (bt x) : Int) = x % 128 := by
  have := bt_num_all ⟨x.toNat, by omega⟩
  have e : ((x.toNat : Nat) : Int) = x := by omega
  simp only [e] at this
  rw [this]
  omega
theorem bin_app : ∀ (m l : List Nat) (a : Nat), m.foldl (fun a c => a * 2 + Bx.bv c) a = a * 2 ^ m.length + m.foldl (fun a c => a * 2 + Bx.bv c) 0
  | [], l, a => by simp
  | c :: m, l, a => by
    rw [List.foldl_cons, List.foldl_cons, bin_app m l, bin_app m l (0 * 2 + Bx.bv c), List.length_cons, Nat.pow_succ]
    generalize 2 ^ m.length = P
    generalize List.foldl (fun a c => a * 2 + Bx.bv c) 0 m = Z
    rw [Nat.add_mul, Nat.zero_mul, Nat.zero_add, Nat.mul_assoc, Nat.mul_comm 2 P]
    omega
theorem bin_append (l m : List Nat) : Bx.binNum (l ++ m) = Bx.binNum l * 2 ^ m.length + Bx.binNum m := by
  unfold Bx.binNum
  rw [List.foldl_append]
  exact bin_app m [] _
theorem octs_rng : ∀ n : Nat, ∀ y ∈ octs n, 0 ≤ y ∧ y < 256 := fun n y hy => by
  obtain ⟨hs, x, e, h1, h2, h3, _⟩ := octs_split n
  rw [e] at hy
  rcases List.mem_append.mp hy with h | h
  · have := h1 y h; omega
  · have := List.mem_singleton.mp h; omega
theorem octs_num : ∀ n : Nat, Bx.binNum (((octs n).reverse.map bt).flatten) = n := fun n => by
  induction n using Nat.strongRecOn with
  | _ n ih =>
    by_cases c : n < 128
    · rw [octs_lt c]
      have := bt_num (x := (n : Int)) (by omega) (by omega)
      simp
      omega
    · rw [octs_ge c, List.reverse_cons, List.map_append, List.flatten_append, bin_append, ih (n / 128) (by omega)]
      have := bt_num (x := 128 + ((n % 128 : Nat) : Int)) (by omega) (by omega)
      have e : ([128 + ((n % 128 : Nat) : Int)].map bt).flatten = bt (128 + ((n % 128 : Nat) : Int)) := by rw [List.map_cons, List.map_nil, List.flatten_cons, List.flatten_nil, List.append_nil]
      rw [e, bt_len]
      omega
def sb (x : Int) (k : Int) : Str := if Builtin.bitAnd x (64 / 2 ^ k.toNat) = 0 then ("0" : Str) else ("1" : Str)
theorem joinL_nil : ∀ p : List (List Nat), joinL [] p = p.flatten
  | [] => rfl
  | [p] => by simp [joinL]
  | p :: q :: r => by
    unfold joinL
    rw [joinL_nil (q :: r)]
    simp
theorem join_tl (ys : List Str) : (Txt.join ("" : Str) ys).cps.toList = (ys.map fun y => y.cps.toList).flatten := by
  rw [join_eq]
  have := tl_join ("" : Str) ys
  have e : tl ("" : Str) = [] := by decide +kernel
  rw [e, joinL_nil] at this
  exact this
theorem tl0 : ("0" : Str).cps.toList = [48] := by decide +kernel
theorem tl1 : ("1" : Str).cps.toList = [49] := by decide +kernel
theorem len_cps (s : Str) : s.length = s.cps.toList.length := by show s.cps.size = _; rw [Array.length_toList]
theorem joinG_of {ys : List Str} (h : ∀ y ∈ ys, y.cps.toList.length ≤ 7) (hl : ys.length ≤ 1000) : joinG ("" : Str) ys = some (Txt.join ("" : Str) ys) := gd_of (by
  have e : ("" : Str).length = 0 := by decide +kernel
  rw [e, Nat.mul_zero, Nat.add_zero]
  have : (ys.map fun y : Str => y.length).sum ≤ 7 * ys.length := by
    clear hl
    induction ys with
    | nil => simp
    | cons y r ih =>
      have := ih fun z hz => h z (List.mem_cons_of_mem _ hz)
      have := h y List.mem_cons_self
      rw [← len_cps] at this
      simp only [List.map_cons, List.sum_cons, List.length_cons]
      omega
  omega)
theorem sb_tl (x k : Int) : (sb x k).cps.toList = [if Builtin.bitAnd x (64 / 2 ^ k.toNat) = 0 then 48 else 49] := by
  unfold sb
  by_cases z : Builtin.bitAnd x (64 / 2 ^ k.toNat) = 0
  · rw [if_pos z, if_pos z, tl0]
  · rw [if_neg z, if_neg z, tl1]
theorem bits (x : Int) : ∃ s, t_bits_of x = some s ∧ s.cps.toList = bt x := by
  refine ⟨Txt.join ("" : Str) ((rng 0 7).map (sb x)), ?_, ?_⟩
  · unfold t_bits_of
    have hf : fdivG 128 2 = some 64 := by decide +kernel
    simp only [up_O, pure_O, some_bind', range1_of (j := 7) (by decide) (by decide), hf]
    have e7 : (7 : Int).toNat = 7 := rfl
    rw [e7]
    have hgd : gd ((rng 0 7).length ≤ sizeLine) () = some () := gd_of (by rw [rng_len]; exact szL (by decide))
    rw [hgd, some_bind']
    rw [lcY_of (sb x) (rng 0 7) fun k hk => ?_, some_bind']
    · exact joinG_of (fun y hy => by
        obtain ⟨k, _, rfl⟩ := List.mem_map.mp hy
        rw [sb_tl]; simp) (by rw [List.length_map, rng_len]; decide)
    · have := rng_mem hk
      rw [shrG_of (by omega)]
      unfold sb
      simp only [some_bind']
      by_cases z : Builtin.bitAnd x (64 / 2 ^ k.toNat) = 0
      · rw [if_pos z, decide_eq_true z]; rfl
      · rw [if_neg z, decide_eq_false z]; rfl
  · rw [join_tl, List.map_map]
    have e : ((fun y : Str => y.cps.toList) ∘ sb x) = fun k => [if Builtin.bitAnd x (64 / 2 ^ k.toNat) = 0 then 48 else 49] := funext fun k => sb_tl x k
    rw [e]
    rfl
/-! ### the walk over octets that go on -/
theorem cut_mid (a o t : List Int) (j : Nat) (hj : j = a.length + o.length) : cutP (a ++ o ++ t) (some (a.length : Int)) (some (j : Int)) = o := by
  unfold cutP
  rw [HT.sIx_nat, HT.sIx_nat]
  have h1 : min a.length (a ++ o ++ t).length = a.length := by simp <;> omega
  have h2 : min j (a ++ o ++ t).length = a.length + o.length := by simp <;> omega
  rw [h1, h2, List.append_assoc, List.drop_left, Nat.add_sub_cancel_left, List.take_left]
theorem rd_wh (os : List Int) (p : Int) (x : Int) (t : List Int) (hx : x < 128) : ∀ (hs a : List Int), os = a ++ hs ++ x :: t → (∀ y ∈ hs, 128 ≤ y ∧ y < 256) →
    whileM (fun (x8 : Int) => ((pure ((decide (x8 < (os.length : Int)))) : Option Bool) >>= fun x11 => if x11 = true then ((up (atI os x8) : Option Int) >>= fun x9 => (pure (128) : Option Int) >>= fun x10 => (pure (decide (x10 ≤ x9)) : Option Bool)) else (pure (false) : Option Bool))) (fun (x8 : Int) => (t_read_integer_b1 os p x8)) (a.length : Int) = some ((a.length + hs.length : Nat) : Int)
  | [], a, e, _ => by
    have hl : a.length < os.length := by rw [e]; simp
    have ha : atI os (a.length : Int) = some x := atI_at (by rw [e]; simp)
    refine whO_end ?_
    rw [decide_eq_true (show (a.length : Int) < (os.length : Int) by omega)]
    simp only [pure_O, some_bind', if_true, up_O, ha]
    rw [decide_eq_false (by omega)]
  | y :: hs, a, e, h => by
    have hy := h y List.mem_cons_self
    have hl : a.length < os.length := by rw [e]; simp
    have ha : atI os (a.length : Int) = some y := atI_at (by rw [e]; simp)
    have ih := rd_wh os p x t hx hs (a ++ [y]) (by rw [e]; simp) fun z hz => h z (List.mem_cons_of_mem _ hz)
    rw [List.length_append] at ih
    refine whO_turn (s' := ((a.length : Int) + 1)) ?_ rfl ?_
    · rw [decide_eq_true (show (a.length : Int) < (os.length : Int) by omega)]
      simp only [pure_O, some_bind', if_true, up_O, ha]
      rw [decide_eq_true (by omega)]
    · have e1 : ((a.length + [y].length : Nat) : Int) = (a.length : Int) + 1 := by simp
      have e2 : a.length + [y].length + hs.length = a.length + (y :: hs).length := by simp; omega
      rw [e1, e2] at ih
      exact ih
theorem lcY_bits : ∀ xs : List Int, ∃ ys, lcY (fun (x18 : Int) => t_bits_of x18) xs = some ys ∧ ys.map (fun y => y.cps.toList) = xs.map bt
  | [] => ⟨[], rfl, rfl⟩
  | x :: xs => by
    obtain ⟨s, h1, h2⟩ := bits x
    obtain ⟨ys, h3, h4⟩ := lcY_bits xs
    refine ⟨s :: ys, ?_, by simp [h2, h4]⟩
    unfold lcY
    simp only [h1, h3, some_bind', pure_O]
theorem read_ok (a t : List Int) (n : Nat) (hl : (octs n).length ≤ 90) (ht : a.length + t.length ≤ 900) : t_read_integer (a ++ octs n ++ t) (a.length : Int) = some ((n : Int), ((a.length : Int) + ((octs n).length : Int))) := by
  obtain ⟨hs, x, e, h1, h2, h3, h4⟩ := octs_split n
  have ew := rd_wh (a ++ octs n ++ t) (a.length : Int) x t h3 hs a (by rw [e]; simp) h1
  have hlen : (octs n).length = hs.length + 1 := by rw [e]; simp
  have hL : (a ++ octs n ++ t).length = a.length + hs.length + 1 + t.length := by rw [List.length_append, List.length_append, hlen]; omega
  have hat : atI (a ++ octs n ++ t) ((a.length + hs.length : Nat) : Int) = some x := atI_at (by
    rw [e, List.append_assoc, List.append_assoc, List.getElem?_append_right (by omega), Nat.add_sub_cancel_left, List.getElem?_append_right (Nat.le_refl _), Nat.sub_self]
    rfl)
  unfold t_read_integer
  simp only [pure_O, some_bind', up_O] at ew ⊢
  rw [ew]
  simp only [some_bind', hat]
  rw [decide_eq_false (show ¬ (((a.length + hs.length : Nat) : Int) = ((a ++ octs n ++ t).length : Int)) by omega)]
  simp only [Bool.false_eq_true, if_false]
  have hz : (if decide (x = 0) = true then some (decide ((a.length : Int) < ((a.length + hs.length : Nat) : Int))) else some false) = some false := by
    by_cases z : x = 0
    · rw [if_pos (decide_eq_true z)]
      have : hs = [] := Classical.byContradiction fun q => h4 q z
      rw [this]; simp
    · rw [if_neg (by simp [z])]
  rw [hz]
  simp only [some_bind', Bool.false_eq_true, if_false]
  have ec : (((a.length + hs.length : Nat) : Int) + 1) = ((a.length + (octs n).length : Nat) : Int) := by omega
  rw [ec, cut_mid a (octs n) t _ rfl]
  have hgd : gd ((octs n).reverse.length ≤ sizeLine) () = some () := gd_of (by rw [List.length_reverse]; exact szL (by omega))
  rw [hgd, some_bind']
  obtain ⟨ys, h5, h6⟩ := lcY_bits (octs n).reverse
  have h7 : ys.length = (octs n).length := by have := congrArg List.length h6; simpa using this
  rw [h5, some_bind', joinG_of (fun y hy => by
    have : y.cps.toList ∈ ys.map fun y => y.cps.toList := List.mem_map.mpr ⟨y, hy, rfl⟩
    rw [h6] at this
    obtain ⟨z, _, q⟩ := List.mem_map.mp this
    rw [← q, bt_len]; exact Nat.le_refl _) (by omega), some_bind']
  have eT := join_tl ys
  rw [h6] at eT
  have hfl : (((octs n).reverse.map bt).flatten).length = 7 * (octs n).length := by
    have : ∀ xs : List Int, ((xs.map bt).flatten).length = 7 * xs.length := fun xs => by
      induction xs with
      | nil => rfl
      | cons x r ih => rw [List.map_cons, List.flatten_cons, List.length_append, bt_len, ih, List.length_cons]; omega
    rw [this, List.length_reverse]
  have hi : intBinG (Txt.join ("" : Str) ys) = some (n : Int) := by
    have : intBinG (Txt.join ("" : Str) ys) = some ((Bx.binNum (Txt.join ("" : Str) ys).cps.toList : Nat) : Int) := gd_of ⟨by
      rw [eT]; intro z
      have := congrArg List.length z
      rw [hfl] at this
      simp at this
      omega, by rw [len_cps, eT, hfl]; omega, by
      rw [eT, List.all_eq_true]
      intro c hc
      obtain ⟨l, hl, hc⟩ := List.mem_flatten.mp hc
      obtain ⟨y, _, rfl⟩ := List.mem_map.mp hl
      rcases bt_bin y c hc with rfl | rfl <;> rfl⟩
    rw [this, eT, octs_num]
  rw [hi, some_bind']
  simp
end TL
set_option Elab.async false
set_option linter.all false
set_option maxRecDepth 100000
set_option maxHeartbeats 4000000
/-! QC: data without truths and dicts: ==, in, index are those of the data. -/
namespace DL
open PySem L2
def clP : Nat → PD → Bool
  | 0, .none => true
  | 0, .int _ => true
  | 0, .str x => PyData.canLay0 (.str x)
  | 0, _ => false
  | _ + 1, .none => true
  | _ + 1, .int _ => true
  | _ + 1, .str x => PyData.canLay0 (.str x)
  | n + 1, .list xs => xs.all (clP n)
  | n + 1, .tuple xs => xs.all (clP n)
  | _ + 1, _ => false
theorem clP_lay : ∀ (n : Nat) (d : PD), clP n d = true → PyData.canLay0 d = true ∧ PyData.depth d ≤ n
  | 0, d, h => by
    cases d with
    | none => exact ⟨rfl, by simp [PyData.depth]⟩
    | int i => exact ⟨rfl, by simp [PyData.depth]⟩
    | str x => exact ⟨h, by simp [PyData.depth]⟩
    | bool b => cases h
    | list x => cases h
    | tuple x => cases h
    | dict x => cases h
  | n + 1, d, h => by
    have all : ∀ xs : List PD, xs.all (clP n) = true → PyData.canLayAll0 xs = true ∧ PyData.depthAll xs ≤ n := by
      intro xs
      induction xs with
      | nil => intro _; exact ⟨rfl, by simp [PyData.depthAll]⟩
      | cons x r ih =>
        intro hx
        rw [List.all_cons, Bool.and_eq_true] at hx
        have h1 := clP_lay n x hx.1
        have h2 := ih hx.2
        exact ⟨by simp only [PyData.canLayAll0, h1.1, h2.1]; rfl, by simp only [PyData.depthAll]; omega⟩
    cases d with
    | none => exact ⟨rfl, by simp [PyData.depth]⟩
    | int i => exact ⟨rfl, by simp [PyData.depth]⟩
    | str x => exact ⟨h, by simp [PyData.depth]⟩
    | bool b => cases h
    | list xs => have := all xs h; exact ⟨by simp only [PyData.canLay0]; exact this.1, by simp only [PyData.depth]; omega⟩
    | tuple xs => have := all xs h; exact ⟨by simp only [PyData.canLay0]; exact this.1, by simp only [PyData.depth]; omega⟩
    | dict x => cases h
theorem clP_shaped {n : Nat} {d : PD} (h : clP n d = true) (hn : n ≤ 64) : SeqAt.shaped d = true := by
  have := clP_lay n d h
  show (PyData.canLay0 d && decide (PyData.depth d ≤ 64)) = true
  rw [Bool.and_eq_true]
  exact ⟨this.1, decide_eq_true (by omega)⟩
theorem clP_eqv : ∀ (n m : Nat) (d e : PD), clP n d = true → clP m e = true → (PyData.eqv d e = true ↔ d = e)
  | 0, m, d, e, h, k => by
    have at0 : clP 0 d = true := h
    cases d <;> (first | (exfalso; revert h; simp [clP]; done) | skip) <;> cases e <;> (first | (exfalso; revert k; cases m <;> simp [clP]; done) | simp [PyData.eqv])
  | n + 1, m, d, e, h, k => by
    have all : ∀ (xs ys : List PD) (m : Nat), xs.all (clP n) = true → ys.all (clP m) = true → (PyData.eqvAll xs ys = true ↔ xs = ys) := by
      intro xs
      induction xs with
      | nil => intro ys m _ _; cases ys <;> simp [PyData.eqvAll]
      | cons x r ih =>
        intro ys m hx hy
        cases ys with
        | nil => simp [PyData.eqvAll]
        | cons y q =>
          rw [List.all_cons, Bool.and_eq_true] at hx hy
          simp only [PyData.eqvAll, Bool.and_eq_true, clP_eqv n m x y hx.1 hy.1, ih q m hx.2 hy.2, List.cons.injEq]
    cases d with
    | list xs =>
      cases e with
      | list ys =>
        cases m with
        | zero => cases k
        | succ m => simp only [PyData.eqv, all xs ys m h k, PyData.list.injEq]
      | _ => first | (simp [PyData.eqv]; done) | (exfalso; revert k; cases m <;> simp [clP])
    | tuple xs =>
      cases e with
      | tuple ys =>
        cases m with
        | zero => cases k
        | succ m => simp only [PyData.eqv, all xs ys m h k, PyData.tuple.injEq]
      | _ => first | (simp [PyData.eqv]; done) | (exfalso; revert k; cases m <;> simp [clP])
    | bool b => cases h
    | dict x => cases h
    | _ => cases e <;> (first | (exfalso; revert k; cases m <;> simp [clP]; done) | simp [PyData.eqv])
open Classical in
noncomputable instance decPD : DecidableEq PD := fun _ _ => Classical.propDecidable _
theorem eqP_cl {n m : Nat} {d e : PD} (h : clP n d = true) (k : clP m e = true) (hn : n ≤ 64 := by decide) (hm : m ≤ 64 := by decide) : eqP d e = some (decide (d = e)) := by
  unfold eqP
  rw [if_pos ⟨clP_shaped h hn, clP_shaped k hm⟩]
  have := clP_eqv n m d e h k
  cases q : PyData.eqv d e with
  | true => rw [decide_eq_true (this.mp q)]
  | false => rw [decide_eq_false fun z => by rw [this.mpr z] at q; cases q]
theorem neP_cl {n m : Nat} {d e : PD} (h : clP n d = true) (k : clP m e = true) (hn : n ≤ 64 := by decide) (hm : m ≤ 64 := by decide) : neP d e = some (!decide (d = e)) := by
  unfold neP
  rw [if_pos ⟨clP_shaped h hn, clP_shaped k hm⟩]
  have := clP_eqv n m d e h k
  cases q : PyData.eqv d e with
  | true => rw [decide_eq_true (this.mp q)]
  | false => rw [decide_eq_false fun z => by rw [this.mpr z] at q; cases q]
theorem any_cl {n m : Nat} {d : PD} {ds : List PD} (h : clP n d = true) (k : ds.all (clP m) = true) : (ds.any fun z => PyData.eqv z d) = decide (d ∈ ds) := by
  induction ds with
  | nil => rfl
  | cons x r ih =>
    rw [List.all_cons, Bool.and_eq_true] at k
    rw [List.any_cons, ih k.2]
    have := clP_eqv m n x d k.1 h
    by_cases c : x = d
    · have hm : d ∈ x :: r := by rw [c]; exact List.mem_cons_self
      rw [this.mpr c, Bool.true_or, decide_eq_true hm]
    · have e : PyData.eqv x d = false := by cases q : PyData.eqv x d with | false => rfl | true => exact absurd (this.mp q) c
      rw [e, Bool.false_or]
      have : (d ∈ x :: r) ↔ d ∈ r := by rw [List.mem_cons]; exact ⟨fun z => z.elim (fun z => absurd z.symm c) id, .inr⟩
      simp only [this]
theorem inAP_list {n m : Nat} {d : PD} {ds : List PD} (h : clP n d = true) (k : ds.all (clP m) = true) (hn : n ≤ 64 := by decide) (hm : m + 1 ≤ 64 := by decide) : inAP d (.list ds) = some (decide (d ∈ ds)) := by
  have e := any_cl h k
  have e1 : inDP d (.list ds) = some (decide (d ∈ ds)) := by
    show (if _ then _ else _) = _
    rw [if_pos ⟨clP_shaped h hn, clP_shaped (n := m + 1) (d := .list ds) k hm⟩, e]
  unfold inAP gOr
  have e2 : inP d (.list ds) = if flatP d = true ∧ ds.all flatP = true then some (ds.any fun e => PyData.eqv e d) else none := by cases d <;> rfl
  rw [e2]
  by_cases c : flatP d = true ∧ ds.all flatP = true
  · rw [if_pos c, e]
  · rw [if_neg c]; exact e1
theorem inAP_tup {n m : Nat} {d : PD} {ds : List PD} (h : clP n d = true) (k : ds.all (clP m) = true) (hn : n ≤ 64 := by decide) (hm : m + 1 ≤ 64 := by decide) : inAP d (.tuple ds) = some (decide (d ∈ ds)) := by
  have e := any_cl h k
  have e1 : inDP d (.tuple ds) = some (decide (d ∈ ds)) := by
    show (if _ then _ else _) = _
    rw [if_pos ⟨clP_shaped h hn, clP_shaped (n := m + 1) (d := .tuple ds) k hm⟩, e]
  unfold inAP gOr
  have e2 : inP d (.tuple ds) = if flatP d = true ∧ ds.all flatP = true then some (ds.any fun e => PyData.eqv e d) else none := by cases d <;> rfl
  rw [e2]
  by_cases c : flatP d = true ∧ ds.all flatP = true
  · rw [if_pos c, e]
  · rw [if_neg c]; exact e1
theorem ninAP_of {d e : PD} {b : Bool} (h : inAP d e = some b) : ninAP d e = some (!b) := by
  unfold inAP gOr at h
  unfold ninAP gOr ninP ninDP
  cases q : inP d e with
  | some k => rw [q] at h; cases h; rfl
  | none =>
    rw [q] at h
    have h : inDP d e = some b := h
    show (match (none : Option Bool) with | some z => some z | none => (inDP d e).map (!·)) = _
    rw [h]; rfl
theorem clP_okA : ∀ (n : Nat) (d : PD), n ≤ 64 → clP n d = true → okA d = true
  | 0, d, hn, h => by
    cases d with
    | str x => exact clP_shaped (n := 0) h (by decide)
    | none => rfl
    | int i => rfl
    | bool b => rfl
    | list x => cases h
    | tuple x => cases h
    | dict x => cases h
  | n + 1, d, hn, h => by
    have all : ∀ xs : List PD, xs.all (clP n) = true → okAs xs = true := by
      intro xs
      induction xs with
      | nil => intro _; rfl
      | cons x r ih =>
        intro hx
        rw [List.all_cons, Bool.and_eq_true] at hx
        simp only [okAs, clP_okA n x (by omega) hx.1, ih hx.2]; rfl
    cases d with
    | str x => exact clP_shaped (n := n + 1) h hn
    | none => rfl
    | int i => rfl
    | bool b => rfl
    | list x => exact all x h
    | tuple x => exact all x h
    | dict x => cases h
end DL
set_option Elab.async false
set_option linter.all false
set_option maxRecDepth 100000
set_option maxHeartbeats 4000000
/-! UPC: read_integer where it refuses. -/
namespace TL
open PySem L2 DL
open Rn (rn up)
abbrev rE (os : List Int) (p : Int) (k : Nat) : EnvM := [some (.d (TL.eT eInt os)), some (.d (.int p)), some (.d (.int (k : Int))), none]
abbrev rC : EnvM → Bag → Res Bool := mAnd (mCmp ltP (mVar 2) (mCa lenP (mCons (mG (mVar 0)) mNil))) (mCmp geP (mOp ixP (mVar 0) (mVar 2)) (mC d_HALF))
abbrev rF : EnvM → Bag → SRes := mAug 2 (fun i j => i + j) (mC (.int 1))
theorem rlen (os : List Int) (p : Int) (k : Nat) (B : Bag) : mCa lenP (mCons (mG (mVar 0)) mNil) (rE os p k) B = .ok (.int (os.length : Int)) B := by
  refine r_ca (r_cons (r_g (r_var rfl)) r_nil) ?_
  show some (PyData.int ((os.map eInt).length : Int)) = _
  rw [List.length_map]
theorem rix {os : List Int} {p : Int} {k : Nat} {x : Int} (h : os[k]? = some x) (B : Bag) : mOp ixP (mVar 0) (mVar 2) (rE os p k) B = .ok (.int x) B := by
  refine r_op (r_var rfl) (r_var rfl) ?_
  have : atI (os.map eInt) (k : Int) = some (eInt x) := atI_nat' (by rw [List.getElem?_map, h]; rfl)
  exact this
theorem rF_at (os : List Int) (p : Int) (k : Nat) (B : Bag) : rF (rE os p k) B = .nx (rE os p (k + 1)) B := by
  show SRes.nx [_, _, some (.d (.int ((k : Int) + 1))), _] B = _
  have : ((k : Int) + 1) = ((k + 1 : Nat) : Int) := by omega
  rw [this]
theorem r_wh (os : List Int) (p : Int) (t : List Int) (ht : t = [] ∨ ∃ x r, t = x :: r ∧ x < 128) (B : Bag) : ∀ (hs a : List Int), os = a ++ hs ++ t → (∀ y ∈ hs, 128 ≤ y) → mWhile rC rF (rE os p a.length) B = .nx (rE os p (a.length + hs.length)) B
  | [], a, e, _ => by
    refine mWhile_end ?_
    rcases ht with rfl | ⟨x, r, rfl, hx⟩
    · refine r_andF (r_cmp (r_var rfl) (rlen _ _ _ _) ?_)
      rw [ltP_int, decide_eq_false]
      rw [e]; simp
    · refine r_andT (r_cmp (r_var rfl) (rlen _ _ _ _) (k := true) ?_) (r_cmp (rix (x := x) (by rw [e]; simp) _) rfl ?_)
      · rw [ltP_int, decide_eq_true]
        rw [e]; simp
        omega
      · show some (decide ((128 : Int) ≤ x)) = _
        rw [decide_eq_false (by omega)]
  | y :: hs, a, e, h => by
    have hy := h y List.mem_cons_self
    have ih := r_wh os p t ht B hs (a ++ [y]) (by rw [e]; simp) fun z hz => h z (List.mem_cons_of_mem _ hz)
    have hC : rC (rE os p a.length) B = .ok true B := by
      refine r_andT (r_cmp (r_var rfl) (rlen _ _ _ _) (k := true) ?_) (r_cmp (rix (x := y) (by rw [e]; simp) _) rfl ?_)
      · rw [ltP_int, decide_eq_true]
        rw [e]; simp
        omega
      · show some (decide ((128 : Int) ≤ y)) = _
        rw [decide_eq_true hy]
    rw [List.length_append] at ih
    have e2 : a.length + [y].length + hs.length = a.length + (y :: hs).length := by simp; omega
    rw [e2] at ih
    exact (mWhile_turn hC (rF_at os p a.length B) (by
      show mWhile rC rF (rE os p (a.length + 1)) B ≠ .bad
      rw [show a.length + 1 = a.length + [y].length from rfl, ih]; intro z; cases z)).trans ih
theorem r_raise (os : List Int) (p : Int) (k : Nat) (B : Bag) : mRaise "BadBytes" fsP_BadBytes (mCons (mG (mVar 1)) (mCons (mG (mC (.str "integer"))) mNil)) (rE os p k) B = .exc "BadBytes" [(("fault" : Str), .str "integer"), (("index" : Str), .int p)] (rE os p k) B := rfl
theorem read_bad (a hs t : List Int) (h : ∀ y ∈ hs, 128 ≤ y) (ht : t = [] ∨ (hs ≠ [] ∧ ∃ r, t = 0 :: r)) (B : Bag) : f_read_integer [.d (TL.eT eInt (a ++ hs ++ t)), .d (eInt (a.length : Int))] B = .exc "BadBytes" [(("fault" : Str), .str "integer"), (("index" : Str), .int (a.length : Int))] B := by
  have ew := r_wh (a ++ hs ++ t) (a.length : Int) t (by
    rcases ht with h | ⟨_, r, h⟩
    · exact .inl h
    · exact .inr ⟨0, r, h, by decide⟩) B hs a rfl h
  have eb : b_read_integer (env0 4 [.d (TL.eT eInt (a ++ hs ++ t)), .d (eInt (a.length : Int))]) B = .exc "BadBytes" [(("fault" : Str), .str "integer"), (("index" : Str), .int (a.length : Int))] (rE (a ++ hs ++ t) (a.length : Int) (a.length + hs.length)) B := by
    unfold b_read_integer
    refine s_seq (e1 := rE (a ++ hs ++ t) (a.length : Int) a.length) (B1 := B) rfl ?_
    refine s_seq ew ?_
    have hi : mIf (mOr (mCmp eqP (mVar 2) (mCa lenP (mCons (mG (mVar 0)) mNil))) (mAnd (mCmp eqP (mOp ixP (mVar 0) (mVar 2)) (mC (.int 0))) (mCmp gtP (mVar 2) (mVar 1)))) (mRaise "BadBytes" fsP_BadBytes (mCons (mG (mVar 1)) (mCons (mG (mC (.str "integer"))) mNil))) mSkip (rE (a ++ hs ++ t) (a.length : Int) (a.length + hs.length)) B = .exc "BadBytes" [(("fault" : Str), .str "integer"), (("index" : Str), .int (a.length : Int))] (rE (a ++ hs ++ t) (a.length : Int) (a.length + hs.length)) B := by
      refine s_ifT ?_ (r_raise _ _ _ _)
      rcases ht with rfl | ⟨hne, r, rfl⟩
      · refine r_orT (r_cmp (r_var rfl) (rlen _ _ _ _) ?_)
        rw [eqP_int, decide_eq_true]
        simp
      · have hl : hs.length ≠ 0 := fun z => hne (List.length_eq_zero_iff.mp z)
        refine r_orF (r_cmp (r_var rfl) (rlen _ _ _ _) (k := false) ?_) (r_andT (r_cmp (rix (x := 0) (by simp) _) rfl (k := true) ?_) (r_cmp (r_var rfl) (r_var rfl) ?_))
        · rw [eqP_int, decide_eq_false]
          simp
          omega
        · rfl
        · rw [gtP_int, decide_eq_true]
          omega
    unfold mSeq
    rw [hi]
  unfold f_read_integer mFn
  rw [eb]
  rfl
theorem told_bad (a hs t : List Int) (h : ∀ y ∈ hs, 128 ≤ y) (ht : t = [] ∨ (hs ≠ [] ∧ ∃ r, t = 0 :: r)) : evD (g__law_octets (f_read_integer [.d (TL.eT eInt (a ++ hs ++ t)), .d (eInt (a.length : Int))])) = (pure (.tuple [.str "bytes", .int (a.length : Int), .str "integer"]) : D PD) := by
  funext B
  have := read_bad a hs t h ht B
  unfold evD g__law_octets mTold
  rw [this]
  rfl
theorem ne_told (p : Int) : neP ((id : PD → PD) (.tuple [.str "bytes", .int p, .str "integer"])) ((eP3 eR eInt eR) (("bytes" : Str), p, ("integer" : Str))) = some false := by
  show neP (.tuple [.str "bytes", .int p, .str "integer"]) (.tuple [.str "bytes", .int p, .str "integer"]) = some false
  unfold neP
  have hs : SeqAt.shaped (.tuple [.str "bytes", .int p, .str "integer"]) = true := clP_shaped (n := 3) (by simp only [clP, List.all_cons, List.all_nil, Bool.and_true, Bool.true_and, Bool.and_eq_true]; exact ⟨by decide +kernel, by decide +kernel⟩) (by decide)
  rw [if_pos ⟨hs, hs⟩]
  simp [PyData.eqv, PyData.eqvAll]
end TL
set_option Elab.async false
set_option linter.all false
set_option maxRecDepth 100000
set_option maxHeartbeats 1000000
/-! UPD: what changes of a few octets do to the check. -/
namespace TL
theorem step_dif {u u' d x x' k : Int} (h : u - u' = d + 4294967291 * k) : ∃ k', stp u x - stp u' x' = 257 * d + (x - x') + 4294967291 * k' := by
  refine ⟨257 * k - (u * 257 + x + 1) / 4294967291 + (u' * 257 + x' + 1) / 4294967291, ?_⟩
  unfold stp
  rw [Int.emod_def, Int.emod_def]
  generalize (u * 257 + x + 1) / 4294967291 = q
  generalize (u' * 257 + x' + 1) / 4294967291 = q'
  omega
theorem stp_inj {c c' x : Int} (h0 : 0 ≤ c) (h1 : c < 4294967291) (h0' : 0 ≤ c') (h1' : c' < 4294967291) (h : stp c x = stp c' x) : c = c' := by
  unfold stp at h
  rw [Int.emod_def, Int.emod_def] at h
  generalize (c * 257 + x + 1) / 4294967291 = q at h
  generalize (c' * 257 + x + 1) / 4294967291 = q' at h
  have e : 257 * (c - c') = 4294967291 * (q - q') := by omega
  have e2 : c - c' = 4294967291 * (3225403452 * (q - q') - 193 * (c - c')) := by omega
  omega
theorem chk_inj : ∀ (xs : List Int) {c c' : Int}, 0 ≤ c → c < 4294967291 → 0 ≤ c' → c' < 4294967291 → chk c xs = chk c' xs → c = c'
  | [], c, c', _, _, _, _, h => h
  | x :: xs, c, c', h0, h1, h0', h1', h => stp_inj h0 h1 h0' h1' (chk_inj xs (stp_rng c x).1 (stp_rng c x).2 (stp_rng c' x).1 (stp_rng c' x).2 h)
/-- octets that all differ -/
def difs : List Int → List Int → Prop
  | [], [] => True
  | a :: q, b :: q' => a ≠ b ∧ 0 ≤ a ∧ a < 256 ∧ 0 ≤ b ∧ b < 256 ∧ difs q q'
  | _, _ => False
theorem difs_len : ∀ {q q' : List Int}, difs q q' → q.length = q'.length
  | [], [], _ => rfl
  | a :: q, b :: q', h => by rw [List.length_cons, List.length_cons, difs_len h.2.2.2.2.2]
  | [], _ :: _, h => h.elim
  | _ :: _, [], h => h.elim
theorem difs_snoc : ∀ {q q' : List Int} {a b : Int}, difs q q' → (a ≠ b ∧ 0 ≤ a ∧ a < 256 ∧ 0 ≤ b ∧ b < 256) → difs (q ++ [a]) (q' ++ [b])
  | [], [], a, b, _, h => ⟨h.1, h.2.1, h.2.2.1, h.2.2.2.1, h.2.2.2.2, trivial⟩
  | x :: q, y :: q', a, b, h, g => ⟨h.1, h.2.1, h.2.2.1, h.2.2.2.1, h.2.2.2.2.1, difs_snoc h.2.2.2.2.2 g⟩
  | [], _ :: _, _, _, h, _ => h.elim
  | _ :: _, [], _, _, h, _ => h.elim
theorem no0 {u v d k : Int} (h : u - v = d + 4294967291 * k) (e : u = v) (hd : d ≠ 0) (h1 : -20000000 ≤ d) (h2 : d ≤ 20000000) : False := by
  have h3 : d + 4294967291 * k = 0 := by omega
  clear h e
  omega
/-- up to three octets that all differ change the check -/
theorem chk_dif (c : Int) : ∀ q q' : List Int, difs q q' → q ≠ [] → q.length ≤ 3 → chk c q ≠ chk c q'
  | [], _, _, h, _ => absurd rfl h
  | [a], [a'], h, _, _ => fun e => by
    obtain ⟨h1, h2, h3, h4, h5, _⟩ := h
    obtain ⟨k, hk⟩ := step_dif (u := c) (u' := c) (d := 0) (x := a) (x' := a') (k := 0) (by omega)
    exact no0 hk e (by omega) (by omega) (by omega)
  | [a, b], [a', b'], h, _, _ => fun e => by
    obtain ⟨h1, h2, h3, h4, h5, g1, g2, g3, g4, g5, _⟩ := h
    obtain ⟨k, hk⟩ := step_dif (u := c) (u' := c) (d := 0) (x := a) (x' := a') (k := 0) (by omega)
    obtain ⟨k2, hk2⟩ := step_dif (d := 257 * 0 + (a - a')) (x := b) (x' := b') hk
    exact no0 hk2 e (by omega) (by omega) (by omega)
  | [a, b, d], [a', b', d'], h, _, _ => fun e => by
    obtain ⟨h1, h2, h3, h4, h5, g1, g2, g3, g4, g5, f1, f2, f3, f4, f5, _⟩ := h
    obtain ⟨k, hk⟩ := step_dif (u := c) (u' := c) (d := 0) (x := a) (x' := a') (k := 0) (by omega)
    obtain ⟨k2, hk2⟩ := step_dif (d := 257 * 0 + (a - a')) (x := b) (x' := b') hk
    obtain ⟨k3, hk3⟩ := step_dif (d := 257 * (257 * 0 + (a - a')) + (b - b')) (x := d) (x' := d') hk2
    exact no0 hk3 e (by omega) (by omega) (by omega)
  | _ :: _ :: _ :: _ :: _, _, _, _, h => by simp at h
  | [_], [], h, _, _ => h.elim
  | [_], _ :: _ :: _, h, _, _ => h.2.2.2.2.2.elim
  | [_, _], [], h, _, _ => h.elim
  | [_, _], [_], h, _, _ => h.2.2.2.2.2.elim
  | [_, _], _ :: _ :: _ :: _, h, _, _ => h.2.2.2.2.2.2.2.2.2.2.elim
  | [_, _, _], [], h, _, _ => h.elim
  | [_, _, _], [_], h, _, _ => h.2.2.2.2.2.elim
  | [_, _, _], [_, _], h, _, _ => h.2.2.2.2.2.2.2.2.2.2.elim
  | [_, _, _], _ :: _ :: _ :: _ :: _, h, _, _ => h.2.2.2.2.2.2.2.2.2.2.2.2.2.2.2.elim
theorem tail4_inj {c c' : Int} (h0 : 0 ≤ c) (h0' : 0 ≤ c') (h : tail4 c = tail4 c') : c = c' := by
  unfold tail4 at h
  injection h with a h
  injection h with b h
  injection h with d h
  injection h with e h
  omega
theorem low2 {c c' : Int} (h1 : c / 256 % 256 = c' / 256 % 256) (h2 : c % 256 = c' % 256) : ∃ z, c - c' = 65536 * z := ⟨c / 256 / 256 - c' / 256 / 256, by omega⟩
theorem low3 {c c' : Int} (h0 : c / 65536 % 256 = c' / 65536 % 256) (h1 : c / 256 % 256 = c' / 256 % 256) (h2 : c % 256 = c' % 256) : ∃ z, c - c' = 16777216 * z := by
  obtain ⟨z, hz⟩ := low2 h1 h2
  refine ⟨c / 65536 / 256 - c' / 65536 / 256, ?_⟩
  omega
theorem no2 {c c' d k z : Int} (h0 : 0 ≤ c) (h1 : c < 4294967291) (h0' : 0 ≤ c') (h1' : c' < 4294967291) (h : c - c' = d + 4294967291 * k) (hd : d ≠ 0) (hd1 : -255 ≤ d) (hd2 : d ≤ 255) (hz : c - c' = 65536 * z) : False := by
  have hk : k = -1 ∨ k = 0 ∨ k = 1 := by omega
  rcases hk with rfl | rfl | rfl <;> omega
theorem no3 {c c' d k z : Int} (h0 : 0 ≤ c) (h1 : c < 4294967291) (h0' : 0 ≤ c') (h1' : c' < 4294967291) (h : c - c' = d + 4294967291 * k) (hd : d ≠ 0) (hd1 : -65790 ≤ d) (hd2 : d ≤ 65790) (hz : c - c' = 16777216 * z) : False := by
  have hk : k = -1 ∨ k = 0 ∨ k = 1 := by omega
  rcases hk with rfl | rfl | rfl <;> omega
theorem dn1 {a b : Int} (h1 : a ≠ b) (h2 : 0 ≤ a) (h3 : a < 256) (h4 : 0 ≤ b) (h5 : b < 256) : 257 * 0 + (a - b) ≠ 0 ∧ -255 ≤ 257 * 0 + (a - b) ∧ 257 * 0 + (a - b) ≤ 255 := by omega
theorem dn2 {a b a' b' : Int} (h2 : 0 ≤ a) (h3 : a < 256) (h4 : 0 ≤ a') (h5 : a' < 256) (g1 : b ≠ b') (g2 : 0 ≤ b) (g3 : b < 256) (g4 : 0 ≤ b') (g5 : b' < 256) : 257 * (257 * 0 + (a - a')) + (b - b') ≠ 0 ∧ -65790 ≤ 257 * (257 * 0 + (a - a')) + (b - b') ∧ 257 * (257 * 0 + (a - a')) + (b - b') ≤ 65790 := by omega
theorem wid {d : Int} (h : -255 ≤ d) (h2 : d ≤ 255) : -65790 ≤ d ∧ d ≤ 65790 := by omega
theorem rngp (p : List Int) : 0 ≤ chk 1 p ∧ chk 1 p < 4294967291 := chk1 p
/-- changes of one to three octets in a row are seen -/
theorem seen (xs p q q' r : List Int) (h : sl xs = p ++ q ++ r) (hd : difs q q') (hq : q ≠ []) (hl : q.length ≤ 3) : ∀ ys, p ++ q' ++ r ≠ sl ys := by
  intro ys hy
  have ql := difs_len hd
  have len : xs.length = ys.length := by
    have e1 := congrArg List.length h
    have e2 := congrArg List.length hy
    unfold sl tail4 at e1 e2
    simp at e1 e2
    omega
  unfold sl at h hy
  have hl1 : (tail4 (chk 1 xs)).length = 4 := rfl
  have hl2 : (tail4 (chk 1 ys)).length = 4 := rfl
  have R := rngp
  by_cases A : p.length + q.length ≤ xs.length
  · -- all within the octets
    rw [List.append_assoc] at h hy
    have e1 : xs = p ++ xs.drop p.length := by
      have := congrArg (List.take p.length) h
      rw [List.take_append_of_le_length (by omega), List.take_left] at this
      conv => lhs; rw [← List.take_append_drop p.length xs, this]
    have e2 : ys = p ++ ys.drop p.length := by
      have := congrArg (List.take p.length) hy
      rw [List.take_left, List.take_append_of_le_length (by omega)] at this
      conv => lhs; rw [← List.take_append_drop p.length ys, ← this]
    have h1 : xs.drop p.length ++ tail4 (chk 1 xs) = q ++ r := by
      have := congrArg (List.drop p.length) h
      rwa [List.drop_left, List.drop_append_of_le_length (by omega)] at this
    have h2 : q' ++ r = ys.drop p.length ++ tail4 (chk 1 ys) := by
      have := congrArg (List.drop p.length) hy
      rwa [List.drop_left, List.drop_append_of_le_length (by omega)] at this
    generalize hX : xs.drop p.length = X at *
    generalize hY : ys.drop p.length = Y at *
    have lX : X.length = xs.length - p.length := by rw [← hX, List.length_drop]
    have lY : Y.length = ys.length - p.length := by rw [← hY, List.length_drop]
    have e3 : X = q ++ X.drop q.length := by
      have := congrArg (List.take q.length) h1
      rw [List.take_append_of_le_length (by omega), List.take_left] at this
      conv => lhs; rw [← List.take_append_drop q.length X, this]
    have e4 : Y = q' ++ Y.drop q'.length := by
      have := congrArg (List.take q'.length) h2
      rw [List.take_left, List.take_append_of_le_length (by omega)] at this
      conv => lhs; rw [← List.take_append_drop q'.length Y, ← this]
    have h3 : X.drop q.length ++ tail4 (chk 1 xs) = r := by
      have := congrArg (List.drop q.length) h1
      rwa [List.drop_left, List.drop_append_of_le_length (by omega)] at this
    have h4 : r = Y.drop q'.length ++ tail4 (chk 1 ys) := by
      have := congrArg (List.drop q'.length) h2
      rwa [List.drop_left, List.drop_append_of_le_length (by omega)] at this
    have h5 := List.append_inj (h3.trans h4) (by rw [List.length_drop, List.length_drop]; omega)
    have ec := tail4_inj (R xs).1 (R ys).1 h5.2
    have Rp := R p
    have a1 : chk 1 xs = chk (chk (chk 1 p) q) (X.drop q.length) := by
      conv => lhs; rw [e1, e3]
      rw [chk_app, chk_app]
    have a2 : chk 1 ys = chk (chk (chk 1 p) q') (X.drop q.length) := by
      conv => lhs; rw [e2, e4, ← h5.1]
      rw [chk_app, chk_app]
    rw [a1, a2] at ec
    have R1 := chk_rng q Rp.1 Rp.2
    have R2 := chk_rng q' Rp.1 Rp.2
    exact chk_dif _ q q' hd hq hl (chk_inj _ R1.1 R1.2 R2.1 R2.2 ec)
  by_cases Bc : xs.length ≤ p.length
  · -- all within the check
    have e1 : xs = ys := by
      have t1 := congrArg (List.take xs.length) h
      have t2 := congrArg (List.take xs.length) hy
      rw [List.append_assoc, List.take_left, List.take_append_of_le_length (by omega)] at t1
      rw [List.append_assoc, List.take_append_of_le_length (by omega), len, List.take_left, ← len] at t2
      rw [t1, t2]
    rw [← e1] at hy
    have := h.symm.trans hy.symm
    rw [List.append_assoc, List.append_assoc] at this
    have := List.append_cancel_left this
    have := List.append_cancel_right this
    subst this
    cases q with
    | nil => exact hq rfl
    | cons a q => exact hd.1 rfl
  · -- some within, some behind
    have hk : ∃ k, xs.length = p.length + k ∧ 1 ≤ k ∧ k < q.length := ⟨xs.length - p.length, by omega, by omega, by omega⟩
    obtain ⟨k, hk, hk1, hk2⟩ := hk
    have e1 : xs = p ++ q.take k := by
      have := congrArg (List.take xs.length) h
      rw [List.take_left, List.take_append_of_le_length (by simp; omega), hk, List.take_append, List.take_of_length_le (by omega), Nat.add_sub_cancel_left] at this
      exact this
    have e2 : ys = p ++ q'.take k := by
      have := congrArg (List.take xs.length) hy
      rw [len, List.take_left, ← len, List.take_append_of_le_length (by simp; omega), hk, List.take_append, List.take_of_length_le (by omega), Nat.add_sub_cancel_left] at this
      exact this.symm
    have h1 : tail4 (chk 1 xs) = q.drop k ++ r := by
      have := congrArg (List.drop xs.length) h
      rw [List.drop_left, List.drop_append_of_le_length (by simp; omega), hk, List.drop_append, List.drop_eq_nil_of_le (by omega), Nat.add_sub_cancel_left, List.nil_append] at this
      exact this
    have h2 : q'.drop k ++ r = tail4 (chk 1 ys) := by
      have := congrArg (List.drop xs.length) hy
      rw [len, List.drop_left, ← len, List.drop_append_of_le_length (by simp; omega), hk, List.drop_append, List.drop_eq_nil_of_le (by omega), Nat.add_sub_cancel_left, List.nil_append] at this
      exact this
    have a1 : chk 1 xs = chk (chk 1 p) (q.take k) := by conv => lhs; rw [e1, chk_app]
    have a2 : chk 1 ys = chk (chk 1 p) (q'.take k) := by conv => lhs; rw [e2, chk_app]
    rw [a1] at h1
    rw [a2] at h2
    generalize chk 1 p = c at *
    match q, q', hd with
    | [a, b], [a', b'], hd =>
      have : k = 1 := by simp at hk2; omega
      subst this
      obtain ⟨d1, d2, d3, d4, d5, g1, g2, g3, g4, g5, _⟩ := hd
      obtain ⟨k1, hs1⟩ := step_dif (u := c) (u' := c) (d := 0) (x := a) (x' := a') (k := 0) (by omega)
      have r1 := stp_rng c a
      have r2 := stp_rng c a'
      have h1 : tail4 (stp c a) = b :: r := h1
      have h2 : b' :: r = tail4 (stp c a') := h2
      unfold tail4 at h1 h2
      injection h1 with i1 h1
      injection h2 with i2 h2
      rw [← h1] at h2
      injection h2 with j1 h2
      injection h2 with j2 h2
      injection h2 with j3 h2
      obtain ⟨z, hz⟩ := low3 j1 j2 j3
      have N := dn1 d1 d2 d3 d4 d5
      exact no3 r1.1 r1.2 r2.1 r2.2 hs1 N.1 (wid N.2.1 N.2.2).1 (wid N.2.1 N.2.2).2 hz
    | [a, b, d], [a', b', d'], hd =>
      obtain ⟨d1, d2, d3, d4, d5, g1, g2, g3, g4, g5, f1, f2, f3, f4, f5, _⟩ := hd
      obtain ⟨k1, hk1'⟩ := step_dif (u := c) (u' := c) (d := 0) (x := a) (x' := a') (k := 0) (by omega)
      have r1 := stp_rng c a
      have r2 := stp_rng c a'
      have : k = 1 ∨ k = 2 := by simp at hk2; omega
      rcases this with rfl | rfl
      · have h1 : tail4 (stp c a) = b :: d :: r := h1
        have h2 : b' :: d' :: r = tail4 (stp c a') := h2
        unfold tail4 at h1 h2
        injection h1 with i1 h1
        injection h1 with i2 h1
        injection h2 with i3 h2
        injection h2 with i4 h2
        rw [← h1] at h2
        injection h2 with j1 h2
        injection h2 with j2 h2
        obtain ⟨z, hz⟩ := low2 j1 j2
        have N := dn1 d1 d2 d3 d4 d5
        exact no2 r1.1 r1.2 r2.1 r2.2 hk1' N.1 N.2.1 N.2.2 hz
      · obtain ⟨k2, hk2'⟩ := step_dif (d := 257 * 0 + (a - a')) (x := b) (x' := b') hk1'
        have r3 := stp_rng (stp c a) b
        have r4 := stp_rng (stp c a') b'
        have h1 : tail4 (stp (stp c a) b) = d :: r := h1
        have h2 : d' :: r = tail4 (stp (stp c a') b') := h2
        unfold tail4 at h1 h2
        injection h1 with i1 h1
        injection h2 with i2 h2
        rw [← h1] at h2
        injection h2 with j1 h2
        injection h2 with j2 h2
        injection h2 with j3 h2
        obtain ⟨z, hz⟩ := low3 j1 j2 j3
        have N := dn2 d2 d3 d4 d5 g1 g2 g3 g4 g5
        exact no3 r3.1 r3.2 r4.1 r4.2 hk2' N.1 N.2.1 N.2.2 hz
    | [a], [a'], hd => simp at hk2; omega
    | _ :: _ :: _ :: _ :: _, _, hd => simp at hl
    | [], _, hd => exact hq rfl
    | [_, _], _ :: _ :: _ :: _, hd => simp at ql
    | [_, _], [_], hd => simp at ql
    | [_, _, _], [_], hd => simp at ql
    | [_, _, _], [_, _], hd => simp at ql
    | [_, _, _], _ :: _ :: _ :: _ :: _, hd => simp at ql
    | [_], _ :: _ :: _, hd => simp at ql
    | _ :: _, [], hd => simp at ql
end TL
set_option Elab.async false
set_option linter.all false
set_option maxRecDepth 100000
set_option maxHeartbeats 2000000
/-! UPE: the law of k38. -/
namespace TL
open PySem L2 DL
open Rn (rn up)
theorem Tot.bind2 {α β γ : Type} {d : D α} {f : α → D β} {g : β → D γ} {p : β → Prop} {q : γ → Prop} (h : Tot (d >>= f) p) (h2 : ∀ a, p a → Tot (g a) q) : Tot (d >>= fun x => f x >>= g) q := by
  rw [← bind_assoc]
  exact Tot.bind h h2
theorem alk_of {d : PD} (h : okA d = true) (hl : nd d ≤ sizeLine) : alkP f__law_alike d d := fun B => alike_self h hl B
theorem okAs_int : ∀ xs : List Int, okAs (xs.map eInt) = true
  | [] => rfl
  | x :: r => by rw [List.map_cons]; unfold okAs; rw [okAs_int r]; rfl
theorem nds_int : ∀ xs : List Int, nds (xs.map eInt) = xs.length
  | [] => rfl
  | x :: r => by rw [List.map_cons]; unfold nds; rw [nds_int r, List.length_cons]; show 1 + r.length = _; omega
theorem cut_last (hs : List Int) (x : Int) : cutP (hs ++ [x]) none (some (-1)) = hs := by
  unfold cutP
  have e : HT.sIx (hs ++ [x]).length (hs ++ [x]).length (some (-1)) = hs.length := by
    rw [List.length_append]
    unfold HT.sIx
    simp
    try omega
  rw [HT.sIx_none, e, List.drop_zero, Nat.sub_zero, List.take_left]
theorem rng_succ (lo : Int) (k : Nat) : rng lo (k + 1) = lo :: rng (lo + 1) k := by
  unfold rng
  rw [List.range_succ_eq_map, List.map_cons, List.map_map]
  congr 1
  · simp
  · apply List.map_congr_left
    intro i _
    simp only [Function.comp]
    omega
theorem sl_rng {xs : List Int} (h : ∀ x ∈ xs, 0 ≤ x ∧ x < 256) : ∀ x ∈ sl xs, 0 ≤ x ∧ x < 256 := fun x hx => by
  unfold sl at hx
  rcases List.mem_append.mp hx with hx | hx
  · exact h x hx
  · have R := chk1 xs
    unfold tail4 at hx
    simp only [List.mem_cons, List.mem_nil_iff, or_false] at hx
    generalize chk 1 xs = c at *
    rcases hx with rfl | rfl | rfl | rfl <;> omega
def FI (whole p : List Int) (K : Nat) (rem s : List Int) : Prop := ∃ q q' r, whole = p ++ q ++ r ∧ s = p ++ q' ++ r ∧ difs q q' ∧ rem = rng ((p.length + q.length : Nat) : Int) (K - q.length) ∧ q.length ≤ K ∧ K - q.length ≤ r.length
theorem fold_step {whole p : List Int} {K : Nat} (hw : ∀ x ∈ whole, 0 ≤ x ∧ x < 256) (x : Int) (rem s : List Int) (h : FI whole p K (x :: rem) s) : Tot (t_law_b1 s x) (FI whole p K rem) := by
  obtain ⟨q, q', r, h1, h2, h3, h4, h5, h6⟩ := h
  have ql := difs_len h3
  have hK : 1 ≤ K - q.length := by
    rcases Nat.eq_zero_or_pos (K - q.length) with z | z
    · rw [z] at h4; cases h4
    · exact z
  obtain ⟨j, hj⟩ : ∃ j, K - q.length = j + 1 := ⟨K - q.length - 1, by omega⟩
  rw [hj, rng_succ] at h4
  injection h4 with hx hr
  cases r with
  | nil => simp at h6; omega
  | cons w r =>
    have hwm : 0 ≤ w ∧ w < 256 := hw w (by rw [h1]; simp)
    have sl1 : (p ++ q').length = p.length + q.length := by rw [List.length_append]; omega
    have ha : atI s x = some w := by
      rw [hx]
      refine atI_at ?_
      rw [h2, List.getElem?_append_right (by omega), sl1, Nat.sub_self]; rfl
    unfold t_law_b1
    simp only [bind_assoc, pure_bind]
    rw [upD_of ha, pure_bind]
    refine Tot.bind (tkD_tot (n := 255) (by decide) (by decide)) fun d hd => ?_
    rw [upD_of (modG_of (b := 256) (by decide) (by decide)), pure_bind]
    have hset : ∀ v : Int, setG s x v = some (p ++ (q' ++ [v]) ++ r) := fun v => by
      have hl : p.length + q.length < s.length := by rw [h2, List.length_append, sl1]; simp
      have hix : L2.ixN s.length x = some (p.length + q.length) := by
        unfold L2.ixN
        rw [hx, if_pos (by omega), if_pos (by omega)]
        rw [Int.toNat_natCast]
      unfold setG
      rw [hix]
      show some (s.set (p.length + q.length) v) = _
      rw [h2, List.set_append_right _ _ (by omega), sl1, Nat.sub_self]
      simp
    rw [upD_of (hset _), pure_bind]
    refine Tot.pure ⟨q ++ [w], q' ++ [(w + 1 + d) % 256], r, by rw [h1]; simp, rfl, difs_snoc h3 ⟨by omega, hwm.1, hwm.2, by omega, by omega⟩, ?_, by simp; omega, by simp at h6 ⊢; omega⟩
    rw [hr, List.length_append]
    have e1 : K - (q.length + [w].length) = j := by simp; omega
    rw [e1]
    congr 1
theorem fold_tot {xs : List Int} (hxs : ∀ x ∈ xs, 0 ≤ x ∧ x < 256) (hl : xs.length ≤ 100) {at0 m : Int} (h0 : 0 ≤ at0) (h1 : at0 < ((sl xs).length : Int)) (hm : 1 ≤ m) (hm2 : m ≤ 3) :
    Tot ((Rn.up (range2 at0 (min2I (at0 + m) ((sl xs).length : Int))) : D (List Int)) >>= fun x262 => foldM' (fun (x260 : (List Int)) (x261 : Int) => (t_law_b1 x260 x261)) x262 (sl xs)) (fun s => t_is_sealed s = some false) := by
  have wl : (sl xs).length = xs.length + 4 := by unfold sl tail4; simp
  have he : at0 + 1 ≤ min2I (at0 + m) ((sl xs).length : Int) ∧ min2I (at0 + m) ((sl xs).length : Int) ≤ at0 + 3 ∧ min2I (at0 + m) ((sl xs).length : Int) ≤ ((sl xs).length : Int) := by
    unfold min2I
    split <;> omega
  generalize min2I (at0 + m) ((sl xs).length : Int) = e at *
  have hr : range2 at0 e = some (rng at0 (e - at0).toNat) := if_pos ⟨by omega, by omega, by omega, by omega⟩
  rw [upD_of hr, pure_bind]
  have hp : ((sl xs).take at0.toNat).length = at0.toNat := by rw [List.length_take]; omega
  have i0 : FI (sl xs) ((sl xs).take at0.toNat) (e - at0).toNat (rng at0 (e - at0).toNat) (sl xs) := ⟨[], [], (sl xs).drop at0.toNat, by simp, by simp, trivial, by rw [hp]; simp; rw [Int.max_eq_left h0], by simp, by rw [List.length_drop]; simp; omega⟩
  refine Tot.imp (Tot.foldL (FI (sl xs) ((sl xs).take at0.toNat) (e - at0).toNat) _ _ (fun x rem s h => fold_step (sl_rng hxs) x rem s h) i0) fun s hs => ?_
  obtain ⟨q, q', r, h1, h2, h3, h4, h5, h6⟩ := hs
  have hk : (e - at0).toNat - q.length = 0 := by
    have := congrArg List.length h4
    rw [rng_len] at this
    simpa using this.symm
  have ql := difs_len h3
  have hlen : s.length = (sl xs).length := by rw [h1, h2]; simp [ql]
  rw [isse (by omega) (by omega), decide_eq_false]
  intro z
  have := seen xs _ q q' r h1 h3 (by intro z; rw [z] at hk; simp at hk; omega) (by omega) (s.take (s.length - 4))
  rw [← h2] at this
  exact this z.symm
theorem octs_small {n : Nat} (h : n < 10 ^ 61) : (octs n).length ≤ 30 := octs_len 29 n (Nat.lt_of_lt_of_le h (by decide))
theorem b3_tot (u : Unit) (k : Int) : Tot (t_law_b3 u k) (fun o => ∃ t, o = .nx t ∧ True) := by
  unfold t_law_b3
  simp only [bind_assoc, pure_bind]
  have p9 : powG 10 9 = some 1000000000 := by decide +kernel
  have p60 : powG 10 60 = some (10 ^ 60) := by decide +kernel
  refine Tot.bind (tkD_tot (n := 200) (by decide) (by decide)) fun r1 h1 => ?_
  rw [upD_of p9, pure_bind]
  refine Tot.bind (tkD_tot (n := 1000000000) (by decide) (by decide)) fun r2 h2 => ?_
  rw [upD_of p60, pure_bind, pure_bind]
  refine Tot.bind (tkD_tot (n := 1000000000) (by decide) (by decide)) fun r3 h3 => ?_
  refine Tot.bind (smD_tot (by simp) (by simp)) fun x hx => ?_
  have hx2 : 0 ≤ x ∧ x < 10 ^ 61 := by
    simp only [List.mem_cons, List.mem_nil_iff, or_false] at hx
    rcases hx with rfl | rfl | rfl | rfl | rfl | rfl <;> omega
  obtain ⟨n, rfl⟩ : ∃ n : Nat, x = (n : Int) := ⟨x.toNat, by omega⟩
  have on := octs_small (n := n) (by omega)
  rw [upD_of (lint (n := n) (by omega)), pure_bind]
  refine Tot.bind (tkD_tot (n := 5) (by decide) (by decide)) fun k5 hk5 => ?_
  rw [upD_of (range1_of hk5.1 (by omega)), pure_bind, upD_of (gd_of (by rw [rng_len]; exact szL (by omega))), pure_bind]
  refine Tot.bind (Tot.lcY (fun y => 0 ≤ y ∧ y < 256) _ fun _ _ => tkD_tot (n := 256) (by decide) (by decide)) fun ahead ha => ?_
  have hal : ahead.length ≤ 5 := by rw [ha.1, rng_len]; omega
  rw [upD_of (pint (n := n) (by omega)), pure_bind, upD_of (appG_ok (by omega)), pure_bind, upD_of (appG_ok (by simp; omega)), pure_bind, upD_of (read_ok ahead [5] n (by omega) (by simp; omega)), pure_bind]
  rw [upD_of (gdc_of (alk_of (d := (eQ2 (TL.eT eInt) (eP2 eInt eInt)) (octs n, ((n : Int), (ahead.length : Int) + ((octs n).length : Int)))) (by show okAs [PyData.tuple ((octs n).map eInt), .tuple [.int _, .int _]] = true; simp [okAs, okA, okAs_int]) (szL (by show 1 + nds [PyData.tuple ((octs n).map eInt), .tuple [.int _, .int _]] ≤ _; simp only [nds, nd, nds_int]; omega)))), pure_bind]
  simp only [Bool.not_true, Bool.false_eq_true, if_false]
  obtain ⟨hs, z, eo, g1, g2, g3, g4⟩ := octs_split n
  have ol : (octs n).length = hs.length + 1 := by rw [eo]; simp
  have ec : cutP (octs n) none (some (-1)) = hs := by rw [eo]; exact cut_last hs z
  rw [ec, upD_of (appG_ok (by omega)), pure_bind]
  have t1 := told_bad ahead hs [] (fun y hy => (g1 y hy).1) (.inl rfl)
  rw [List.append_nil] at t1
  rw [t1, pure_bind, upD_of (ne_told _), pure_bind]
  simp only [Bool.false_eq_true, if_false]
  by_cases c : decide (1 < ((octs n).length : Int)) = true
  · rw [if_pos c]
    have c := of_decide_eq_true c
    have ez : atI (octs n) (-1) = some z := by rw [eo]; exact atI_last hs z
    rw [upD_of ez, pure_bind, upD_of (appG_ok (by simp; omega)), pure_bind, upD_of (appG_ok (by simp; omega)), pure_bind]
    have t2 := told_bad ahead (hs ++ [z + 128]) [0] (fun y hy => by
      rcases List.mem_append.mp hy with hy | hy
      · exact (g1 y hy).1
      · have := List.mem_singleton.mp hy; omega) (.inr ⟨by simp, [], rfl⟩)
    have e2 : ahead ++ (hs ++ [z + 128]) ++ [0] = ahead ++ (hs ++ [z + 128, 0]) := by simp
    rw [e2] at t2
    rw [t2, pure_bind, upD_of (ne_told _), pure_bind]
    simp only [Bool.false_eq_true, if_false]
    refine Tot.bind (tkD_tot (n := 20) (by decide) (by decide)) fun k20 hk20 => ?_
    rw [upD_of (range1_of hk20.1 (by omega)), pure_bind, upD_of (gd_of (by rw [rng_len]; exact szL (by omega))), pure_bind]
    refine Tot.bind (Tot.lcY (fun y => 0 ≤ y ∧ y < 256) _ fun _ _ => tkD_tot (n := 256) (by decide) (by decide)) fun xs hx2 => ?_
    have hxs := hx2.2
    have hxl : xs.length ≤ 20 := by rw [hx2.1, rng_len]; omega
    have wl : (sl xs).length = xs.length + 4 := by unfold sl tail4; simp
    rw [upD_of (lsea (xs := xs) (by omega)), pure_bind, upD_of (isse_sl (xs := xs) (by omega))]
    simp only [pure_bind]
    rw [upD_of (psea (xs := xs) (by omega)), upD_of (pchk xs), pure_bind, pure_bind, upD_of (lchk xs), pure_bind]
    rw [upD_of (gdc_of (alk_of (d := (eQ3 eInt (TL.eT eInt) eBool) (chk 1 xs, sl xs, true)) (by show okAs [PyData.int _, .tuple ((sl xs).map eInt), .bool true] = true; simp [okAs, okA, okAs_int]) (szL (by show 1 + nds [PyData.int _, .tuple ((sl xs).map eInt), .bool true] ≤ _; simp only [nds, nd, nds_int]; omega)))), pure_bind]
    simp only [Bool.not_true, Bool.false_eq_true, if_false]
    refine Tot.bind (tkD_tot (n := ((sl xs).length : Int)) (by omega) (by omega)) fun at0 hat => ?_
    refine Tot.bind (tkD_tot (n := 3) (by decide) (by decide)) fun m0 hm => ?_
    refine Tot.bind2 (fold_tot hxs (by omega) hat.1 hat.2 (m := 1 + m0) (by omega) (by omega)) fun s hs => ?_
    rw [upD_of hs, pure_bind]
    simp only [decide_true, Bool.not_true, Bool.false_eq_true, if_false]
    exact Tot.pure ⟨(), rfl, trivial⟩
  · rw [if_neg c]
    refine Tot.bind (tkD_tot (n := 20) (by decide) (by decide)) fun k20 hk20 => ?_
    rw [upD_of (range1_of hk20.1 (by omega)), pure_bind, upD_of (gd_of (by rw [rng_len]; exact szL (by omega))), pure_bind]
    refine Tot.bind (Tot.lcY (fun y => 0 ≤ y ∧ y < 256) _ fun _ _ => tkD_tot (n := 256) (by decide) (by decide)) fun xs hx2 => ?_
    have hxs := hx2.2
    have hxl : xs.length ≤ 20 := by rw [hx2.1, rng_len]; omega
    have wl : (sl xs).length = xs.length + 4 := by unfold sl tail4; simp
    rw [upD_of (lsea (xs := xs) (by omega)), pure_bind, upD_of (isse_sl (xs := xs) (by omega))]
    simp only [pure_bind]
    rw [upD_of (psea (xs := xs) (by omega)), upD_of (pchk xs), pure_bind, pure_bind, upD_of (lchk xs), pure_bind]
    rw [upD_of (gdc_of (alk_of (d := (eQ3 eInt (TL.eT eInt) eBool) (chk 1 xs, sl xs, true)) (by show okAs [PyData.int _, .tuple ((sl xs).map eInt), .bool true] = true; simp [okAs, okA, okAs_int]) (szL (by show 1 + nds [PyData.int _, .tuple ((sl xs).map eInt), .bool true] ≤ _; simp only [nds, nd, nds_int]; omega)))), pure_bind]
    simp only [Bool.not_true, Bool.false_eq_true, if_false]
    refine Tot.bind (tkD_tot (n := ((sl xs).length : Int)) (by omega) (by omega)) fun at0 hat => ?_
    refine Tot.bind (tkD_tot (n := 3) (by decide) (by decide)) fun m0 hm => ?_
    refine Tot.bind2 (fold_tot hxs (by omega) hat.1 hat.2 (m := 1 + m0) (by omega) (by omega)) fun s hs => ?_
    rw [upD_of hs, pure_bind]
    simp only [decide_true, Bool.not_true, Bool.false_eq_true, if_false]
    exact Tot.pure ⟨(), rfl, trivial⟩
theorem law_tot : Tot t_law (fun b => b = true) := by
  unfold t_law
  rw [upD_of (range1_of (by decide) (by decide)), pure_bind]
  exact Tot.onR (p := fun _ => True) (Tot.loopR (fun _ => True) _ _ (fun s l hm _ => b3_tot s l) trivial) fun _ _ => Tot.pure rfl
end TL
namespace DL
open PySem L2
theorem plain_law : ∀ ns : List Int, ns.length ≤ 63 → ∃ B, m_law (envL 15 1) (bag0 ns) = .ret (.bool true) B := fun ns h => by
  obtain ⟨b, B', e, _, rfl⟩ := TL.law_tot (bag0 ns) (by
    show (cellsOf ns).length ≤ 63
    unfold cellsOf
    rw [List.length_map]; exact h)
  exact ⟨B', TL.t_law_ok e⟩
end DL
set_option Elab.async false
set_option linter.all false
set_option maxRecDepth 100000
set_option maxHeartbeats 4000000
namespace DL
open PySem L2 C8
/-! ### the text by places -/
def top (i : Nat) : Stmt := PySem.Challenge.pw_stillsums_k38_octets_of_integers_and_che.main.body.getD i (.Pass ⟨0, 0, 0, 0⟩)
abbrev s__wall : Stmt := top 0
abbrev s_integer_octets : Stmt := top 10
abbrev s_bits_of : Stmt := top 11
abbrev s_read_integer : Stmt := top 12
abbrev s_check_of : Stmt := top 13
abbrev s_sealed : Stmt := top 14
abbrev s_is_sealed : Stmt := top 15
abbrev s__law_take : Stmt := top 18
abbrev s__law_some : Stmt := top 19
abbrev s__law_alike : Stmt := top 20
abbrev s__law_integer : Stmt := top 21
abbrev s__law_check : Stmt := top 22
abbrev s__law_sealed : Stmt := top 23
abbrev s__law_octets : Stmt := top 24
abbrev s_law : Stmt := top 25
abbrev s__law_bag : Stmt := top 17
structure Txt (K : Fg) (mg : Str → Option Value) : Prop where
  abs : mg "abs" = none
  bool : mg "bool" = none
  int : mg "int" = none
  isinstance : mg "isinstance" = none
  len : mg "len" = none
  list : mg "list" = none
  min : mg "min" = none
  range : mg "range" = none
  str : mg "str" = none
  tuple : mg "tuple" = none
  zip : mg "zip" = none
  CHECK : GC K mg "CHECK" (.int 4) d_CHECK
  FACTOR : GC K mg "FACTOR" (.int 257) d_FACTOR
  GROUP : GC K mg "GROUP" (.int 7) d_GROUP
  HALF : GC K mg "HALF" (.int 128) d_HALF
  MODULUS : GC K mg "MODULUS" (.int 4294967291) d_MODULUS
section
variable {P : Program} {w : World} {K : Fg} {mg : Str → Option Value} {base : Heap}
theorem sc__law_octets : FnScope ["deed", "e"] ["deed"] (fnScope s__law_octets) := fnScope_by (by decide +kernel)
theorem gv__law_octets {X : Cx} {g : Addr} {C_BadBytes fI_BadBytes cc_BadBytes cda_BadBytes : Addr} (X_BadBytes : PySem.OwnBadBytes.Txt P K mg C_BadBytes fI_BadBytes cc_BadBytes cda_BadBytes) (hK : X.K = K) (hM : X.mg = mg) : ∀ cdv, LamX.GivesTo X ["deed", "e"] "_law_octets" (fnScope s__law_octets) g cdv (fnBody s__law_octets) "deed" (X.env.qual ++ "<lambda>") (TDeed K mg g__law_octets) := by
  subst hK hM
  intro cdv
  exact gives_told X.K X.mg (p11 := ⟨0, 0, 0, 0⟩) (i := 1) (th := fun a cls d => (tCons (tC (.str "bytes")) (tCons (tBy C_BadBytes "index" a cls d (tVarL 2 1)) (tCons (tBy C_BadBytes "fault" a cls d (tVarL 2 1)) tNil)))) (fun s H => (hd_strM (hd_byM (X := ToldX X ["deed", "e"] "_law_octets" (fnScope s__law_octets) g cdv s H) (i := 1) (n := "e") X_BadBytes.ga X_BadBytes.gg X_BadBytes.exC X_BadBytes.hdC X_BadBytes.at_index (hd_byM (X := ToldX X ["deed", "e"] "_law_octets" (fnScope s__law_octets) g cdv s H) (i := 1) (n := "e") X_BadBytes.ga X_BadBytes.gg X_BadBytes.exC X_BadBytes.hdC X_BadBytes.at_fault hd_nilM)))) sc__law_octets.nd (by decide) X_BadBytes.gC X_BadBytes.te (fun f => rfl)
theorem sc__wall : FnScope ["k"] ["k"] (fnScope s__wall) := fnScope_by (by decide +kernel)
theorem ok__wall {f : Addr} {fd : FuncData} (F : Def K mg "_wall" s__wall f fd) (b : Binds K fd ["k"] []) (T : Txt K mg)  : Cal P w K mg base 1 "_wall" (SpF K mg 1 f__wall) [] := by
  refine def_ok (N := ["k"]) (m := b__wall) F b sc__wall rfl fun cdv A outer s H E hr => ⟨_, (sds_one (sd_while PassesOwn.never (td_truK K ed_bl) (sds_one sd_pass)))⟩
theorem sc_integer_octets : FnScope ["number", "found"] ["number"] (fnScope s_integer_octets) := fnScope_by (by decide +kernel)
theorem ok_integer_octets {f : Addr} {fd : FuncData} (F : Def K mg "integer_octets" s_integer_octets f fd) (b : Binds K fd ["number"] []) (T : Txt K mg)  : Cal P w K mg base 1 "integer_octets" (SpF K mg 1 f_integer_octets) [] := by
  refine def_ok (N := ["number", "found"]) (m := b_integer_octets) F b sc_integer_octets rfl fun cdv A outer s H E hr => ⟨_, (sds_cons (sd_own 1 sc_integer_octets.nd ad_nil)
      (sds_cons (sd_while PassesOwn.never (td_cmp op_ge opC_int (ed_var 0) (ed_gl T.HALF)) (sds_cons (let X0 := (ed_addK K (ed_gl T.HALF) (ed_and2 (ed_var 0) (ed_sub (ed_gl T.HALF) ed_int))); sd_app 1 X0 (hpe := (pe_bm PySem.F.plainAttrs_list PySem.F.slot_list_append PySem.F.type_list_append mt_append (pe_var (i := 1) rfl (by first | exact Or.inl rfl | exact Or.inr (Or.inl rfl) | exact Or.inr (Or.inr rfl)) (by decide) (by decide)) (pa_cons (ED.pe X0) pa_nil))))
      (sds_one (sd_augG 0 sc_integer_octets.nd iop_shr opD_shr (ed_gl T.GROUP)))))
      (sds_fz 1 (sds_one (sd_ret (ed_tup (ad_starK K (ed_var 1) (ad_cons (gd (ed_var 0)) ad_nil))))))))⟩
theorem sc_bits_of : FnScope ["octet", "at"] ["octet"] (fnScope s_bits_of) := fnScope_by (by decide +kernel)
theorem ok_bits_of {f : Addr} {fd : FuncData} (F : Def K mg "bits_of" s_bits_of f fd) (b : Binds K fd ["octet"] []) (T : Txt K mg)  : Cal P w K mg base 1 "bits_of" (SpF K mg 1 f_bits_of) [] := by
  refine def_ok (N := ["octet", "at"]) (m := b_bits_of) F b sc_bits_of rfl fun cdv A outer s H E hr => ⟨_, (sds_one (sd_ret (ed_join ed_str (ed_lc [("at", 1)] rfl sc_bits_of.nd (wi_range1 T.range (ad_cons (gd (ed_gl T.GROUP)) ad_nil)) (fun _ _ _ _ _ => (gt_name 1 sc_bits_of.nd)) (fun _ _ _ _ _ => tds_nil) (fun _ _ _ _ _ => (ed_if (td_truK K (ed_and2 (ed_var 0) (ed_shr (ed_fdiv (ed_gl T.HALF) ed_int) (ed_var 1)))) ed_str ed_str))))))⟩
theorem sc_read_integer : FnScope ["octets", "place", "at", "octet"] ["octets", "place"] (fnScope s_read_integer) := fnScope_by (by decide +kernel)
theorem ok_read_integer {f : Addr} {fd : FuncData} (F : Def K mg "read_integer" s_read_integer f fd) (b : Binds K fd ["octets", "place"] []) (T : Txt K mg) (c_bits_of : Cal P w K mg base 1 "bits_of" (SpF K mg 1 f_bits_of) []) {C_BadBytes fI_BadBytes cc_BadBytes cda_BadBytes : Addr} (X_BadBytes : PySem.OwnBadBytes.Txt P K mg C_BadBytes fI_BadBytes cc_BadBytes cda_BadBytes) : CalX P w K mg base 3 "read_integer" (SpE K mg 2 f_read_integer) := by
  refine defX_ok (N := ["octets", "place", "at", "octet"]) (m := b_read_integer) F b sc_read_integer rfl fun cdv A outer s H E hr => ⟨_, (sds_cons (sd_set 2 sc_read_integer.nd (ed_var 1))
      (sds_cons (sd_while (passes_of rfl) (WD.td (wd_and (td_cmp op_lt opC_int (ed_var 2) (ed_ca (r := rLenK K) call_len ca_len T.len (by decide +kernel) (ad_cons (gd (ed_var 0)) ad_nil))) (wd_and1 (td_cmp op_ge opC_int (ed_ixK K (ed_var 0) (ed_var 2)) (ed_gl T.HALF))))) (sds_one (sd_aug 2 sc_read_integer.nd ip_add ed_int)))
      (sds_cons (sd_if (WD.td (wd_or (td_cmp (r := rEqD K) (op_eqD hr.units) opC_eq (ed_var 2) (ed_ca (r := rLenK K) call_len ca_len T.len (by decide +kernel) (ad_cons (gd (ed_var 0)) ad_nil))) (wd_or1 (WD.td (wd_and (td_cmp (r := rEqD K) (op_eqD hr.units) opC_eq (ed_ixK K (ed_var 0) (ed_var 2)) ed_int) (wd_and1 (td_cmp op_gt opC_int (ed_var 2) (ed_var 1)))))))) (sds_one (let A0 := (ad_cons (gd (ed_var 1)) (ad_cons (gd ed_str) ad_nil)); sd_raise X_BadBytes.gC A0 (ps_raise_BadBytes rfl X_BadBytes hr (takes_of rfl rfl rfl rfl) (AD.pe A0)) fsok_BadBytes)) sds_nil)
      (sds_one (sd_ret (ed_tup (ad_cons (gd (ed_ct call_int_bin ca_intBin T.int (by decide +kernel) (ad_cons (gd (ed_join ed_str (ed_lc [("octet", 3)] rfl sc_read_integer.nd (wi_seqSK K (ed_revK K (ed_sliceK K (ed_var 0) (od_some (ed_var 1)) (od_some (ed_addK K (ed_var 2) ed_int))))) (fun _ _ _ _ _ => (gt_name 3 sc_read_integer.nd)) (fun _ _ _ _ _ => tds_nil) (fun _ _ _ _ _ => (ed_defK K mg c_bits_of hr (by decide) (ad_cons (gd (ed_var 3)) ad_nil)))))) (ad_cons (gd ed_int) ad_nil)))) (ad_cons (gd (ed_addK K (ed_var 2) ed_int)) ad_nil))))))))⟩
theorem sc_check_of : FnScope ["octets", "found", "octet"] ["octets"] (fnScope s_check_of) := fnScope_by (by decide +kernel)
theorem ok_check_of {f : Addr} {fd : FuncData} (F : Def K mg "check_of" s_check_of f fd) (b : Binds K fd ["octets"] []) (T : Txt K mg)  : Cal P w K mg base 1 "check_of" (SpF K mg 1 f_check_of) [] := by
  refine def_ok (N := ["octets", "found", "octet"]) (m := b_check_of) F b sc_check_of rfl fun cdv A outer s H E hr => ⟨_, (sds_cons (sd_set 1 sc_check_of.nd ed_int)
      (sds_cons (sd_for PassesOwn.never rfl (wi_seqSK K (ed_var 0)) (gt_name 2 sc_check_of.nd) (sds_one (sd_set 1 sc_check_of.nd (ed_mod (ed_addK K (ed_addK K (ed_mulK K (ed_var 1) (ed_gl T.FACTOR)) (ed_var 2)) ed_int) (ed_gl T.MODULUS)))))
      (sds_one (sd_ret (ed_var 1)))))⟩
theorem sc_sealed : FnScope ["octets", "check"] ["octets"] (fnScope s_sealed) := fnScope_by (by decide +kernel)
theorem ok_sealed {f : Addr} {fd : FuncData} (F : Def K mg "sealed" s_sealed f fd) (b : Binds K fd ["octets"] []) (T : Txt K mg) (c_check_of : Cal P w K mg base 1 "check_of" (SpF K mg 1 f_check_of) []) : Cal P w K mg base 2 "sealed" (SpF K mg 1 f_sealed) [] := by
  refine def_ok (N := ["octets", "check"]) (m := b_sealed) F b sc_sealed rfl fun cdv A outer s H E hr => ⟨_, (sds_cons (sd_set 1 sc_sealed.nd (ed_defK K mg c_check_of hr (by decide) (ad_cons (gd (ed_var 0)) ad_nil)))
      (sds_one (sd_ret (ed_tup (ad_starK K (ed_var 0) (ad_cons (gd (ed_shr (ed_var 1) ed_int)) (ad_cons (gd (ed_and2 (ed_shr (ed_var 1) ed_int) ed_int)) (ad_cons (gd (ed_and2 (ed_shr (ed_var 1) ed_int) ed_int)) (ad_cons (gd (ed_and2 (ed_var 1) ed_int)) ad_nil)))))))))⟩
theorem sc_is_sealed : FnScope ["octets"] ["octets"] (fnScope s_is_sealed) := fnScope_by (by decide +kernel)
theorem ok_is_sealed {f : Addr} {fd : FuncData} (F : Def K mg "is_sealed" s_is_sealed f fd) (b : Binds K fd ["octets"] []) (T : Txt K mg) (c_sealed : Cal P w K mg base 2 "sealed" (SpF K mg 1 f_sealed) []) : Cal P w K mg base 3 "is_sealed" (SpF K mg 1 f_is_sealed) [] := by
  refine def_ok (N := ["octets"]) (m := b_is_sealed) F b sc_is_sealed rfl fun cdv A outer s H E hr => ⟨_, (sds_one (sd_ret (ed_and (ed_cmp op_ge opC_int (ed_ca (r := rLenK K) call_len ca_len T.len (by decide +kernel) (ad_cons (gd (ed_var 0)) ad_nil)) (ed_gl T.CHECK)) (ed_one (ed_cmp (r := rEqD K) (op_eqD hr.units) opC_eq (ed_defK K mg c_sealed hr (by decide) (ad_cons (gd (ed_sliceK K (ed_var 0) od_none (od_some (ed_sub (ed_ca (r := rLenK K) call_len ca_len T.len (by decide +kernel) (ad_cons (gd (ed_var 0)) ad_nil)) (ed_gl T.CHECK))))) ad_nil)) (ed_ct (r := ZT.rTupleP K) ZT.call_tupleP ca_tuple T.tuple (by decide +kernel) (ad_cons (gd (ed_var 0)) ad_nil)))))))⟩
theorem sc__law_take : FnScope ["bag", "many", "cell", "stirred", "value", "begin", "second"] ["bag", "many"] (fnScope s__law_take) := fnScope_by (by decide +kernel)
theorem ok__law_take {f : Addr} {fd : FuncData} (F : Def K mg "_law_take" s__law_take f fd) (b : Binds K fd ["bag", "many"] []) (T : Txt K mg)  : Cal P w K mg base 1 "_law_take" (SpF K mg 2 f__law_take) [] := by
  refine def_ok (N := ["bag", "many", "cell", "stirred", "value", "begin", "second"]) (m := b__law_take) F b sc__law_take rfl fun cdv A outer s H E hr => ⟨_, (sds_cons (sd_if (td_cmp (r := rEqD K) (op_eqD hr.units) opC_eq (ed_bagK K 0 0) ed_int) (sds_cons (sd_set 2 sc__law_take.nd (ed_ixK K (ed_addK K (ed_sliceK K (ed_bagK K 0 3) (od_some (ed_bagK K 0 2)) od_none) (ed_lst (ad_cons (gd ed_int) ad_nil))) ed_int))
      (sds_cons (sd_bagAug 0 2 1)
      (sds_cons (sd_if (td_cmp op_ge opC_int (ed_var 2) (ed_pow ed_int ed_int)) (sds_one (sd_bagSet 0 0 (ed_var 2))) sds_nil)
      (sds_cons (sd_set 3 sc__law_take.nd (ed_addK K (ed_addK K (ed_mulK K (ed_bagK K 0 1) ed_int) (ed_mod (ed_ct call_int1 ca_int T.int (by decide +kernel) (ad_cons (gd (ed_var 2)) ad_nil)) ed_int)) (ed_mulK K ed_int (ed_bagK K 0 2))))
      (sds_one (sd_bagSet 0 1 (ed_mod (ed_ct call_int1 ca_int T.int (by decide +kernel) (ad_cons (gd (ed_var 3)) ad_nil)) ed_int))))))) sds_nil)
      (sds_cons (sd_if (td_cmp op_gt opC_int (ed_bagK K 0 0) ed_int) (sds_cons (sd_set 4 sc__law_take.nd (ed_mod (ed_ct call_int1 ca_int T.int (by decide +kernel) (ad_cons (gd (ed_bagK K 0 0)) ad_nil)) (ed_var 1)))
      (sds_cons (sd_bagSet 0 0 (ed_fdiv (ed_ct call_int1 ca_int T.int (by decide +kernel) (ad_cons (gd (ed_bagK K 0 0)) ad_nil)) (ed_var 1)))
      (sds_one (sd_ret (ed_var 4))))) sds_nil)
      (sds_cons (sd_set 5 sc__law_take.nd (ed_mod (ed_ct call_int1 ca_int T.int (by decide +kernel) (ad_cons (gd (ed_mulK K (ed_addK K (ed_bagK K 0 1) ed_int) ed_int)) ad_nil)) ed_int))
      (sds_cons (sd_set 6 sc__law_take.nd (ed_mod (ed_ct call_int1 ca_int T.int (by decide +kernel) (ad_cons (gd (ed_mulK K (ed_mod (ed_ct call_int1 ca_int T.int (by decide +kernel) (ad_cons (gd (ed_mulK K (ed_var 5) (ed_var 5))) ad_nil)) ed_int) ed_int)) ad_nil)) ed_int))
      (sds_one (sd_ret (ed_mod (ed_ct call_int1 ca_int T.int (by decide +kernel) (ad_cons (gd (ed_fdiv (ed_var 6) ed_int)) ad_nil)) (ed_var 1))))))))⟩
theorem sc__law_some : FnScope ["bag", "things"] ["bag", "things"] (fnScope s__law_some) := fnScope_by (by decide +kernel)
theorem ok__law_some {f : Addr} {fd : FuncData} (F : Def K mg "_law_some" s__law_some f fd) (b : Binds K fd ["bag", "things"] []) (T : Txt K mg) (c__law_take : Cal P w K mg base 1 "_law_take" (SpF K mg 2 f__law_take) []) : Cal P w K mg base 2 "_law_some" (SpF K mg 2 f__law_some) [] := by
  refine def_ok (N := ["bag", "things"]) (m := b__law_some) F b sc__law_some rfl fun cdv A outer s H E hr => ⟨_, (sds_one (sd_ret (ed_ixK K (ed_var 1) (ed_defK K mg c__law_take hr (by decide) (ad_cons (gd_bag 0) (ad_cons (gd (ed_ca (r := rLenK K) call_len ca_len T.len (by decide +kernel) (ad_cons (gd (ed_var 1)) ad_nil))) ad_nil))))))⟩
theorem sc__law_alike : FnScope ["found", "due", "pairs", "at", "one", "other"] ["found", "due"] (fnScope s__law_alike) := fnScope_by (by decide +kernel)
theorem ok__law_alike {f : Addr} {fd : FuncData} (F : Def K mg "_law_alike" s__law_alike f fd) (b : Binds K fd ["found", "due"] []) (T : Txt K mg)  : Cal P w K mg base 1 "_law_alike" (SpF K mg 2 f__law_alike) [] := by
  refine def_ok (N := ["found", "due", "pairs", "at", "one", "other"]) (m := b__law_alike) F b sc__law_alike rfl fun cdv A outer s H E hr => ⟨_, (sds_cons (sd_parOwn 2 3 rfl sc__law_alike.nd (ad_cons (gd (ed_tup (ad_cons (gd (ed_var 0)) (ad_cons (gd (ed_var 1)) ad_nil)))) ad_nil) ed_int)
      (sds_cons (sd_while PassesOwn.never (td_cmp op_lt opC_int (ed_var 3) (ed_lenOwn 2 T.len)) (sds_cons (sd_asg (ed_ixOwnK K 2 (ed_var 3)) (gt_tupK K rfl (gts_cons (gt_name 4 sc__law_alike.nd) (gts_cons (gt_name 5 sc__law_alike.nd) gts_nil))))
      (sds_cons (sd_aug 3 sc__law_alike.nd ip_add ed_int)
      (sds_cons (sd_if (WD.td (wd_or (td_cmp (r := rNeD K) (op_neD hr.units) opC_ne (ed_isiK K kit_bool T.isinstance T.bool (ed_var 4) (by decide +kernel)) (ed_isiK K kit_bool T.isinstance T.bool (ed_var 5) (by decide +kernel))) (wd_or1 (td_cmp (r := rNeD K) (op_neD hr.units) opC_ne (ed_isiK K kit_str T.isinstance T.str (ed_var 4) (by decide +kernel)) (ed_isiK K kit_str T.isinstance T.str (ed_var 5) (by decide +kernel)))))) (sds_one (sd_ret ed_bl)) sds_nil)
      (sds_cons (sd_if (td_cmp (r := rNeD K) (op_neD hr.units) opC_ne (ed_isi2K K kit_tuple kit_list T.isinstance T.tuple T.list (ed_var 4) (by decide +kernel) (by decide +kernel)) (ed_isi2K K kit_tuple kit_list T.isinstance T.tuple T.list (ed_var 5) (by decide +kernel) (by decide +kernel))) (sds_one (sd_ret ed_bl)) sds_nil)
      (sds_one (sd_if (td_truK K (ed_isi2K K kit_tuple kit_list T.isinstance T.tuple T.list (ed_var 4) (by decide +kernel) (by decide +kernel))) (sds_cons (sd_if (WD.td (wd_or (td_cmp (r := rNeD K) (op_neD hr.units) opC_ne (ed_isiK K kit_tuple T.isinstance T.tuple (ed_var 4) (by decide +kernel)) (ed_isiK K kit_tuple T.isinstance T.tuple (ed_var 5) (by decide +kernel))) (wd_or1 (td_cmp (r := rNeD K) (op_neD hr.units) opC_ne (ed_ca (r := rLenK K) call_len ca_len T.len (by decide +kernel) (ad_cons (gd (ed_var 4)) ad_nil)) (ed_ca (r := rLenK K) call_len ca_len T.len (by decide +kernel) (ad_cons (gd (ed_var 5)) ad_nil)))))) (sds_one (sd_ret ed_bl)) sds_nil)
      (sds_one (let X0 := (ed_listZipK K rfl T.list T.zip (ad_cons (gd (ed_var 4)) (ad_cons (gd (ed_var 5)) ad_nil))); sd_ext 2 X0 (hpe := (pe_bm PySem.F.plainAttrs_list PySem.F.slot_list_extend PySem.F.type_list_extend mt_extend (pe_var (i := 2) rfl (by first | exact Or.inl rfl | exact Or.inr (Or.inl rfl) | exact Or.inr (Or.inr rfl)) (by decide) (by decide)) (pa_cons (ED.pe X0) pa_nil)))))) (sds_one (sd_if (td_cmp (r := rNeD K) (op_neD hr.units) opC_ne (ed_var 4) (ed_var 5)) (sds_one (sd_ret ed_bl)) sds_nil)))))))))
      (sds_one (sd_ret ed_bl))))⟩
theorem sc__law_integer : FnScope ["number", "found"] ["number"] (fnScope s__law_integer) := fnScope_by (by decide +kernel)
theorem ok__law_integer {f : Addr} {fd : FuncData} (F : Def K mg "_law_integer" s__law_integer f fd) (b : Binds K fd ["number"] []) (T : Txt K mg)  : Cal P w K mg base 1 "_law_integer" (SpF K mg 1 f__law_integer) [] := by
  refine def_ok (N := ["number", "found"]) (m := b__law_integer) F b sc__law_integer rfl fun cdv A outer s H E hr => ⟨_, (sds_cons (sd_own 1 sc__law_integer.nd ad_nil)
      (sds_cons (sd_while PassesOwn.never (td_cmp op_gt opC_int (ed_var 0) ed_int) (sds_cons (let X0 := (ed_addK K ed_int (ed_mod (ed_ct call_int1 ca_int T.int (by decide +kernel) (ad_cons (gd (ed_var 0)) ad_nil)) ed_int)); sd_app 1 X0 (hpe := (pe_bm PySem.F.plainAttrs_list PySem.F.slot_list_append PySem.F.type_list_append mt_append (pe_var (i := 1) rfl (by first | exact Or.inl rfl | exact Or.inr (Or.inl rfl) | exact Or.inr (Or.inr rfl)) (by decide) (by decide)) (pa_cons (ED.pe X0) pa_nil))))
      (sds_one (sd_set 0 sc__law_integer.nd (ed_fdiv (ed_ct call_int1 ca_int T.int (by decide +kernel) (ad_cons (gd (ed_var 0)) ad_nil)) ed_int)))))
      (sds_fz 1 (sds_one (sd_ret (ed_ct (r := ZT.rTupleP K) ZT.call_tupleP ca_tuple T.tuple (by decide +kernel) (ad_cons (gd (ed_addK K (ed_var 1) (ed_lst (ad_cons (gd (ed_var 0)) ad_nil)))) ad_nil)))))))⟩
theorem sc__law_check : FnScope ["octets", "found", "octet"] ["octets"] (fnScope s__law_check) := fnScope_by (by decide +kernel)
theorem ok__law_check {f : Addr} {fd : FuncData} (F : Def K mg "_law_check" s__law_check f fd) (b : Binds K fd ["octets"] []) (T : Txt K mg)  : Cal P w K mg base 1 "_law_check" (SpF K mg 1 f__law_check) [] := by
  refine def_ok (N := ["octets", "found", "octet"]) (m := b__law_check) F b sc__law_check rfl fun cdv A outer s H E hr => ⟨_, (sds_cons (sd_set 1 sc__law_check.nd ed_int)
      (sds_cons (sd_for PassesOwn.never rfl (wi_seqSK K (ed_var 0)) (gt_name 2 sc__law_check.nd) (sds_one (sd_set 1 sc__law_check.nd (ed_mod (ed_ct call_int1 ca_int T.int (by decide +kernel) (ad_cons (gd (ed_addK K (ed_addK K (ed_mulK K (ed_var 1) ed_int) (ed_var 2)) ed_int)) ad_nil)) ed_int))))
      (sds_one (sd_ret (ed_var 1)))))⟩
theorem sc__law_sealed : FnScope ["octets", "check", "found", "place"] ["octets"] (fnScope s__law_sealed) := fnScope_by (by decide +kernel)
theorem ok__law_sealed {f : Addr} {fd : FuncData} (F : Def K mg "_law_sealed" s__law_sealed f fd) (b : Binds K fd ["octets"] []) (T : Txt K mg) (c__law_check : Cal P w K mg base 1 "_law_check" (SpF K mg 1 f__law_check) []) : Cal P w K mg base 2 "_law_sealed" (SpF K mg 1 f__law_sealed) [] := by
  refine def_ok (N := ["octets", "check", "found", "place"]) (m := b__law_sealed) F b sc__law_sealed rfl fun cdv A outer s H E hr => ⟨_, (sds_cons (sd_parM 1 2 rfl sc__law_sealed.nd (md_d (ed_defK K mg c__law_check hr (by decide) (ad_cons (gd (ed_var 0)) ad_nil))) (md_lst ad_nil))
      (sds_cons (sd_for PassesOwn.never rfl (wi_range1 T.range (ad_cons (gd ed_int) ad_nil)) (gt_name 3 sc__law_sealed.nd) (sds_cons (let X0 := (ed_mod (ed_ct call_int1 ca_int T.int (by decide +kernel) (ad_cons (gd (ed_var 1)) ad_nil)) ed_int); sd_app 2 X0 (hpe := (pe_bm PySem.F.plainAttrs_list PySem.F.slot_list_append PySem.F.type_list_append mt_append (pe_var (i := 2) rfl (by first | exact Or.inl rfl | exact Or.inr (Or.inl rfl) | exact Or.inr (Or.inr rfl)) (by decide) (by decide)) (pa_cons (ED.pe X0) pa_nil))))
      (sds_one (sd_set 1 sc__law_sealed.nd (ed_fdiv (ed_ct call_int1 ca_int T.int (by decide +kernel) (ad_cons (gd (ed_var 1)) ad_nil)) ed_int)))))
      (sds_fz 2 (sds_one (sd_ret (ed_addK K (ed_ct (r := ZT.rTupleP K) ZT.call_tupleP ca_tuple T.tuple (by decide +kernel) (ad_cons (gd (ed_var 0)) ad_nil)) (ed_ct (r := ZT.rTupleP K) ZT.call_tupleP ca_tuple T.tuple (by decide +kernel) (ad_cons (gd (ed_revLK K (ed_var 2))) ad_nil))))))))⟩
theorem sc__law_bag : FnScope ["script", "cell"] ["script"] (fnScope s__law_bag) := fnScope_by (by decide +kernel)
theorem ok__law_bag {f : Addr} {fd : FuncData} (F : Def K mg "_law_bag" s__law_bag f fd) (b : Binds K fd ["script"] []) (T : Txt K mg) : Cal P w K mg base 1 "_law_bag" (spBag K) [] := by
  refine cal0 (k := 0) F b .nil sc__law_bag (fun vs H Q E h => by obtain ⟨a, ns, e, _⟩ := h; rw [e]; rfl) fun cdv A outer s H vs Q E hr h => ?_
  obtain ⟨a, ns, e, hs, hl, k⟩ := h
  subst e
  refine ⟨_, pss_one (ps_ret (pe_lst (pa_cons pe_int (pa_cons pe_int (pa_cons pe_int (pa_cons (pe_lc (own := [("cell", 1)]) rfl sc__law_bag.nd (pi_list (pe_slice sl_list (pe_var (i := 0) rfl (by first | exact Or.inl rfl | exact Or.inr (Or.inl rfl) | exact Or.inr (Or.inr rfl)) (by decide) (by decide)) po_none (po_some pe_int))) (blkOk_by rfl) (fun _ _ _ _ _ => pg_name (i := 1) sc__law_bag.nd rfl (Or.inl rfl)) (fun _ _ _ _ _ => pts_nil) (fun _ _ _ _ _ => pe_callB call_abs rfl T.abs (by decide +kernel) (pa_cons (pe_var (i := 1) rfl (by first | exact Or.inl rfl | exact Or.inr (Or.inl rfl) | exact Or.inr (Or.inr rfl)) (by decide) (by decide)) pa_nil))) pa_nil)))))), ?_⟩
  exact bag_sem (i := 1) (by show 1 < 2; decide) rfl hs hl k
theorem sc_law : FnScope ["script", "bag", "turn", "number", "row", "ahead", "found", "long", "octets", "whole", "at", "many", "other", "place", "one"] ["script"] (fnScope s_law) := fnScope_by (by decide +kernel)
theorem ok_law {f : Addr} {fd : FuncData} (F : C8.Fun K "law" "law" s_law f fd) (T : Txt K mg) (c_bag : Cal P w K mg base 1 "_law_bag" (spBag K) []) (c__law_take : Cal P w K mg base 1 "_law_take" (SpF K mg 2 f__law_take) []) (c__law_some : Cal P w K mg base 2 "_law_some" (SpF K mg 2 f__law_some) []) (c__law_integer : Cal P w K mg base 1 "_law_integer" (SpF K mg 1 f__law_integer) []) (c_integer_octets : Cal P w K mg base 1 "integer_octets" (SpF K mg 1 f_integer_octets) []) (c_read_integer : CalX P w K mg base 3 "read_integer" (SpE K mg 2 f_read_integer)) (c__law_alike : Cal P w K mg base 1 "_law_alike" (SpF K mg 2 f__law_alike) []) (c__law_sealed : Cal P w K mg base 2 "_law_sealed" (SpF K mg 1 f__law_sealed) []) (c_check_of : Cal P w K mg base 1 "check_of" (SpF K mg 1 f_check_of) []) (c_sealed : Cal P w K mg base 2 "sealed" (SpF K mg 1 f_sealed) []) (c_is_sealed : Cal P w K mg base 3 "is_sealed" (SpF K mg 1 f_is_sealed) []) (c__law_check : Cal P w K mg base 1 "_law_check" (SpF K mg 1 f__law_check) []) {C_BadBytes fI_BadBytes cc_BadBytes cda_BadBytes : Addr} (X_BadBytes : PySem.OwnBadBytes.Txt P K mg C_BadBytes fI_BadBytes cc_BadBytes cda_BadBytes) {gf__law_octets : Addr} {fd__law_octets : FuncData} (F__law_octets : Def K mg "_law_octets" s__law_octets gf__law_octets fd__law_octets) (b__law_octets : Binds K fd__law_octets ["deed"] []) {cL PL : Addr} (LK : LamK K mg base fd "law" cL PL) (hm : ∀ ns : List Int, ns.length ≤ 63 → ∃ B, m_law (envL 15 1) (bag0 ns) = .ret (.bool true) B) : FnOk P w K mg base C8.CX0 6 f fd ["script"] (spLawT K) := by
  refine fn0C (k := 5) F sc_law (fun vs H Q E h => by obtain ⟨a, ns, e, _⟩ := h; rw [e]; rfl) fun cdv hcdv A outer s H vs Q E hr h => ?_
  obtain ⟨a, ns, e, hs, hl, hTT, k⟩ := h
  have LO : LamOK (BX P w K mg base ["script", "bag", "turn", "number", "row", "ahead", "found", "long", "octets", "whole", "at", "many", "other", "place", "one"] "law" s_law f cdv A outer s H E) cL PL := LK.ok hcdv rfl rfl rfl rfl rfl
  subst e
  obtain ⟨t, R⟩ : ∃ t, SDs (BX P w K mg base ["script", "bag", "turn", "number", "row", "ahead", "found", "long", "octets", "whole", "at", "many", "other", "place", "one"] "law" s_law f cdv A outer s H E) W0 ((fnBody s_law).drop 1) t m_law := ⟨_, (sds_cons (sd_for PassesOwn.never rfl (wi_range1 T.range (ad_cons (gd ed_int) ad_nil)) (gt_name 2 sc_law.nd) (sds_cons (sd_set 3 sc_law.nd (ed_defK K mg c__law_some hr (by decide) (ad_cons (gd_bag 1) (ad_cons (gd (ed_lst (ad_cons (gd (ed_defK K mg c__law_take hr (by decide) (ad_cons (gd_bag 1) (ad_cons (gd ed_int) ad_nil)))) (ad_cons (gd (ed_defK K mg c__law_take hr (by decide) (ad_cons (gd_bag 1) (ad_cons (gd (ed_pow ed_int ed_int)) ad_nil)))) (ad_cons (gd ed_int) (ad_cons (gd ed_int) (ad_cons (gd ed_int) (ad_cons (gd (ed_addK K (ed_pow ed_int ed_int) (ed_defK K mg c__law_take hr (by decide) (ad_cons (gd_bag 1) (ad_cons (gd (ed_pow ed_int ed_int)) ad_nil))))) ad_nil)))))))) ad_nil))))
      (sds_cons (sd_asg (ed_tup (ad_cons (gd (ed_defK K mg c__law_integer hr (by decide) (ad_cons (gd (ed_var 3)) ad_nil))) (ad_cons (gd (ed_ct (r := ZT.rTupleP K) ZT.call_tupleP ca_tuple T.tuple (by decide +kernel) (ad_cons (gd (ed_lc [("one", 14)] rfl sc_law.nd (wi_range1 T.range (ad_cons (gd (ed_defK K mg c__law_take hr (by decide) (ad_cons (gd_bag 1) (ad_cons (gd ed_int) ad_nil)))) ad_nil)) (fun _ _ _ _ _ => (gt_name 14 sc_law.nd)) (fun _ _ _ _ _ => tds_nil) (fun _ _ _ _ _ => (ed_defK K mg c__law_take hr (by decide) (ad_cons (gd_bag 1) (ad_cons (gd ed_int) ad_nil)))))) ad_nil))) ad_nil))) (gt_tupK K rfl (gts_cons (gt_name 4 sc_law.nd) (gts_cons (gt_name 5 sc_law.nd) gts_nil))))
      (sds_cons (sd_if (td_not (td_truK K (ed_defK K mg c__law_alike hr (by decide) (ad_cons (gd (ed_lst (ad_cons (gd (ed_defK K mg c_integer_octets hr (by decide) (ad_cons (gd (ed_var 3)) ad_nil))) (ad_cons (gd (ed_callE K mg c_read_integer L2.takes0 hr (by decide) (ad_cons (gd (ed_addK K (ed_addK K (ed_var 5) (ed_var 4)) (ed_tup (ad_cons (gd ed_int) ad_nil)))) (ad_cons (gd (ed_ca (r := rLenK K) call_len ca_len T.len (by decide +kernel) (ad_cons (gd (ed_var 5)) ad_nil))) ad_nil)))) ad_nil)))) (ad_cons (gd (ed_lst (ad_cons (gd (ed_var 4)) (ad_cons (gd (ed_tup (ad_cons (gd (ed_var 3)) (ad_cons (gd (ed_addK K (ed_ca (r := rLenK K) call_len ca_len T.len (by decide +kernel) (ad_cons (gd (ed_var 5)) ad_nil)) (ed_ca (r := rLenK K) call_len ca_len T.len (by decide +kernel) (ad_cons (gd (ed_var 4)) ad_nil)))) ad_nil)))) ad_nil)))) ad_nil))))) (sds_one (sd_ret ed_bl)) sds_nil)
      (sds_cons (sd_set 6 sc_law.nd (ed_lam (k := 3) K mg F__law_octets b__law_octets sc__law_octets (gv__law_octets X_BadBytes rfl rfl) LO (by first | exact hr | exact hr.mono (by decide)) (LamX.lamS_by (show LamX.lamSB (fnScope s_law) _ = true by decide +kernel)) (fun _ _ _ _ _ _ _ hrL => (ed_callE K mg c_read_integer takes_lam hrL (by decide) (ad_cons (gd (ed_addK K (ed_var 5) (ed_sliceK K (ed_var 4) od_none (od_some (ed_neg ed_int))))) (ad_cons (gd (ed_ca (r := rLenK K) call_len ca_len T.len (by decide +kernel) (ad_cons (gd (ed_var 5)) ad_nil))) ad_nil))))))
      (sds_cons (sd_if (td_cmp (r := rNeD K) (op_neD hr.units) opC_ne (ed_var 6) (ed_tup (ad_cons (gd ed_str) (ad_cons (gd (ed_ca (r := rLenK K) call_len ca_len T.len (by decide +kernel) (ad_cons (gd (ed_var 5)) ad_nil))) (ad_cons (gd ed_str) ad_nil))))) (sds_one (sd_ret ed_bl)) sds_nil)
      (sds_cons (sd_if (td_cmp op_gt opC_int (ed_ca (r := rLenK K) call_len ca_len T.len (by decide +kernel) (ad_cons (gd (ed_var 4)) ad_nil)) ed_int) (sds_cons (sd_set 7 sc_law.nd (ed_addK K (ed_sliceK K (ed_var 4) od_none (od_some (ed_neg ed_int))) (ed_tup (ad_cons (gd (ed_addK K (ed_ct call_int1 ca_int T.int (by decide +kernel) (ad_cons (gd (ed_ixK K (ed_var 4) (ed_neg ed_int))) ad_nil)) ed_int)) (ad_cons (gd ed_int) ad_nil)))))
      (sds_cons (sd_set 6 sc_law.nd (ed_lam (k := 3) K mg F__law_octets b__law_octets sc__law_octets (gv__law_octets X_BadBytes rfl rfl) LO (by first | exact hr | exact hr.mono (by decide)) (LamX.lamS_by (show LamX.lamSB (fnScope s_law) _ = true by decide +kernel)) (fun _ _ _ _ _ _ _ hrL => (ed_callE K mg c_read_integer takes_lam hrL (by decide) (ad_cons (gd (ed_addK K (ed_var 5) (ed_var 7))) (ad_cons (gd (ed_ca (r := rLenK K) call_len ca_len T.len (by decide +kernel) (ad_cons (gd (ed_var 5)) ad_nil))) ad_nil))))))
      (sds_one (sd_if (td_cmp (r := rNeD K) (op_neD hr.units) opC_ne (ed_var 6) (ed_tup (ad_cons (gd ed_str) (ad_cons (gd (ed_ca (r := rLenK K) call_len ca_len T.len (by decide +kernel) (ad_cons (gd (ed_var 5)) ad_nil))) (ad_cons (gd ed_str) ad_nil))))) (sds_one (sd_ret ed_bl)) sds_nil)))) sds_nil)
      (sds_cons (sd_set 8 sc_law.nd (ed_ct (r := ZT.rTupleP K) ZT.call_tupleP ca_tuple T.tuple (by decide +kernel) (ad_cons (gd (ed_lc [("one", 14)] rfl sc_law.nd (wi_range1 T.range (ad_cons (gd (ed_defK K mg c__law_take hr (by decide) (ad_cons (gd_bag 1) (ad_cons (gd ed_int) ad_nil)))) ad_nil)) (fun _ _ _ _ _ => (gt_name 14 sc_law.nd)) (fun _ _ _ _ _ => tds_nil) (fun _ _ _ _ _ => (ed_defK K mg c__law_take hr (by decide) (ad_cons (gd_bag 1) (ad_cons (gd ed_int) ad_nil)))))) ad_nil)))
      (sds_cons (sd_set 9 sc_law.nd (ed_defK K mg c__law_sealed hr (by decide) (ad_cons (gd (ed_var 8)) ad_nil)))
      (sds_cons (sd_if (td_not (td_truK K (ed_defK K mg c__law_alike hr (by decide) (ad_cons (gd (ed_lst (ad_cons (gd (ed_defK K mg c_check_of hr (by decide) (ad_cons (gd (ed_var 8)) ad_nil))) (ad_cons (gd (ed_defK K mg c_sealed hr (by decide) (ad_cons (gd (ed_var 8)) ad_nil))) (ad_cons (gd (ed_defK K mg c_is_sealed hr (by decide) (ad_cons (gd (ed_var 9)) ad_nil))) ad_nil))))) (ad_cons (gd (ed_lst (ad_cons (gd (ed_defK K mg c__law_check hr (by decide) (ad_cons (gd (ed_var 8)) ad_nil))) (ad_cons (gd (ed_var 9)) (ad_cons (gd ed_bl) ad_nil))))) ad_nil))))) (sds_one (sd_ret ed_bl)) sds_nil)
      (sds_cons (sd_par 10 11 rfl sc_law.nd (ad_cons (gd (ed_defK K mg c__law_take hr (by decide) (ad_cons (gd_bag 1) (ad_cons (gd (ed_ca (r := rLenK K) call_len ca_len T.len (by decide +kernel) (ad_cons (gd (ed_var 9)) ad_nil))) ad_nil)))) (ad_cons (gd (ed_addK K ed_int (ed_defK K mg c__law_take hr (by decide) (ad_cons (gd_bag 1) (ad_cons (gd ed_int) ad_nil))))) ad_nil)))
      (sds_cons (sd_setM 12 sc_law.nd (md_list K T.list (ad_cons (gd (ed_var 9)) ad_nil)))
      (sds_cons (sd_for PassesOwn.never rfl (wi_range2 T.range (ad_cons (gd (ed_var 10)) (ad_cons (gd (ed_ca (call_min2 rfl) ca_min2 T.min (by decide +kernel) (ad_cons (gd (ed_addK K (ed_var 10) (ed_var 11))) (ad_cons (gd (ed_ca (r := rLenK K) call_len ca_len T.len (by decide +kernel) (ad_cons (gd (ed_var 9)) ad_nil))) ad_nil)))) ad_nil))) (gt_name 13 sc_law.nd) (sds_one (sd_setIx 12 (ed_var 13) (ed_mod (ed_ct call_int1 ca_int T.int (by decide +kernel) (ad_cons (gd (ed_addK K (ed_addK K (ed_ixOwnK K 12 (ed_var 13)) ed_int) (ed_defK K mg c__law_take hr (by decide) (ad_cons (gd_bag 1) (ad_cons (gd ed_int) ad_nil))))) ad_nil)) ed_int))))
      (sds_fz 12 (sds_one (sd_if (td_cmp op_notBl opC_isnB (ed_defK K mg c_is_sealed hr (by decide) (ad_cons (gd (ed_ct (r := ZT.rTupleP K) ZT.call_tupleP ca_tuple T.tuple (by decide +kernel) (ad_cons (gd (ed_var 12)) ad_nil))) ad_nil)) ed_bl) (sds_one (sd_ret ed_bl)) sds_nil))))))))))))))))
      (sds_one (sd_ret ed_bl)))⟩
  refine ⟨_, pss_cons (ps_set (i := 1) sc_law.nd rfl (by first | exact Or.inl rfl | exact Or.inr rfl) (pe_c c_bag hr (by decide) rfl (pa_cons (pe_var (i := 0) rfl (by first | exact Or.inl rfl | exact Or.inr (Or.inl rfl) | exact Or.inr (Or.inr rfl)) (by decide) (by decide)) pa_nil))) R.pe, ?_⟩
  exact law_sem (n := 15) (ib := 1) R rfl (by decide) rfl hs hl (hm ns hl) k _ (tabs0 hTT)
end
theorem all_mk {l : PySem.W.OpenLaw} {q : Program} {w : World} {K : PySem.W.Frag} {h : Heap} {mg : Str → Option Value} {fa : Addr} (X : K.In h) (G : h.Ns mainGlobals mg) (hfa : mg "law" = some (.ref fa))
  (tt : ∀ (x : Str) (c P : Addr), ((PyProof.Rows.recsOf q).find? fun e => e.name == x).isSome = true → PySem.W.tabIn K x = some (c, P) → PySem.W.CodeHd h c P ∧ h.get? P = some { cls := .none, data := .fields #[] })
  (hm : ∀ ns : List Int, ns.length ≤ 63 → ∃ B, m_law (envL 15 1) (bag0 ns) = .ret (.bool true) B)
  {g0 : Addr} {oc0 kV0 dc0 pm0 cd0 ct0 : Value} {od0 an0 : Option Addr} {sl0 : Array (Option Value)}
  {g1 : Addr} {oc1 kV1 dc1 pm1 cd1 ct1 : Value} {od1 an1 : Option Addr} {sl1 : Array (Option Value)}
  {g2 : Addr} {oc2 kV2 dc2 pm2 cd2 ct2 : Value} {od2 an2 : Option Addr} {sl2 : Array (Option Value)}
  {g3 : Addr} {oc3 kV3 dc3 pm3 cd3 ct3 : Value} {od3 an3 : Option Addr} {sl3 : Array (Option Value)}
  {g4 : Addr} {oc4 kV4 dc4 pm4 cd4 ct4 : Value} {od4 an4 : Option Addr} {sl4 : Array (Option Value)}
  {g5 : Addr} {oc5 kV5 dc5 pm5 cd5 ct5 : Value} {od5 an5 : Option Addr} {sl5 : Array (Option Value)}
  {g6 : Addr} {oc6 kV6 dc6 pm6 cd6 ct6 : Value} {od6 an6 : Option Addr} {sl6 : Array (Option Value)}
  {g7 : Addr} {oc7 kV7 dc7 pm7 cd7 ct7 : Value} {od7 an7 : Option Addr} {sl7 : Array (Option Value)}
  {g8 : Addr} {oc8 kV8 dc8 pm8 cd8 ct8 : Value} {od8 an8 : Option Addr} {sl8 : Array (Option Value)}
  {g9 : Addr} {oc9 kV9 dc9 pm9 cd9 ct9 : Value} {od9 an9 : Option Addr} {sl9 : Array (Option Value)}
  {g10 : Addr} {oc10 kV10 dc10 pm10 cd10 ct10 : Value} {od10 an10 : Option Addr} {sl10 : Array (Option Value)}
  {g11 : Addr} {oc11 kV11 dc11 pm11 cd11 ct11 : Value} {od11 an11 : Option Addr} {sl11 : Array (Option Value)}
  {g12 : Addr} {oc12 kV12 dc12 pm12 cd12 ct12 : Value} {od12 an12 : Option Addr} {sl12 : Array (Option Value)}
  {g13 : Addr} {oc13 kV13 dc13 pm13 cd13 ct13 : Value} {od13 an13 : Option Addr} {sl13 : Array (Option Value)}
  {g14 : Addr} {oc14 kV14 dc14 pm14 cd14 ct14 : Value} {od14 an14 : Option Addr} {sl14 : Array (Option Value)}
  {g15 : Addr} {oc15 kV15 dc15 pm15 ct15 : Value} {od15 an15 : Option Addr} {sl15 : Array (Option Value)}
  {cL15 PL15 : Addr} {eL15 : Value} {dL15 : Option Addr} {vL15 : Array Value} {sL15 : Array (Option Value)}
  {C_BadBytes fI_BadBytes cc_BadBytes cda_BadBytes : Addr} {nm_BadBytes q_BadBytes : Str} {N_BadBytes : Addr} {bs_BadBytes bm_BadBytes : List Value} {sn_BadBytes : List Str} {sub_BadBytes : List Value} {ab_BadBytes : Bool} {col_BadBytes : Option Bool} {dd_BadBytes : Option Addr} {m0_BadBytes m1_BadBytes m2_BadBytes m3_BadBytes m5_BadBytes : Option Value} {cl_BadBytes : Value} {cld_BadBytes : Option Addr} {csl_BadBytes : Array (Option Value)} {ccl_BadBytes : Value} {cdd_BadBytes : Option Addr} {vs_BadBytes : Array Value} {ccs_BadBytes : Array (Option Value)} {file_BadBytes : Str} {tf_BadBytes : Tok} {oc_BadBytes : Value} {od_BadBytes : Option Addr} {doc_BadBytes pm_BadBytes : Value} {an_BadBytes : Option Addr} {ct_BadBytes : Value} {osl_BadBytes : Array (Option Value)}
  {t_CHECK : Tok}
  {t_FACTOR : Tok}
  {t_GROUP : Tok}
  {t_HALF : Tok}
  {t_MODULUS : Tok}
  (a0 : PySem.W.nsIn K mainGlobals "_wall" = some (some (.ref g0))) (l0 : K.lookup g0 = some ⟨oc0, od0, .func (PySem.W.fnOf "_wall" "_wall" (fnArgs s__wall) (fnBody s__wall) (fnScope s__wall) .none kV0 dc0 pm0 an0 cd0 ct0), sl0⟩) (c0 : PySem.W.codeIn K cd0 "_wall" = true) (k0 : PySem.W.keepIn K (.ref g0) = true)
  (a1 : PySem.W.nsIn K mainGlobals "integer_octets" = some (some (.ref g1))) (l1 : K.lookup g1 = some ⟨oc1, od1, .func (PySem.W.fnOf "integer_octets" "integer_octets" (fnArgs s_integer_octets) (fnBody s_integer_octets) (fnScope s_integer_octets) .none kV1 dc1 pm1 an1 cd1 ct1), sl1⟩) (c1 : PySem.W.codeIn K cd1 "integer_octets" = true) (k1 : PySem.W.keepIn K (.ref g1) = true)
  (a2 : PySem.W.nsIn K mainGlobals "bits_of" = some (some (.ref g2))) (l2 : K.lookup g2 = some ⟨oc2, od2, .func (PySem.W.fnOf "bits_of" "bits_of" (fnArgs s_bits_of) (fnBody s_bits_of) (fnScope s_bits_of) .none kV2 dc2 pm2 an2 cd2 ct2), sl2⟩) (c2 : PySem.W.codeIn K cd2 "bits_of" = true) (k2 : PySem.W.keepIn K (.ref g2) = true)
  (a3 : PySem.W.nsIn K mainGlobals "read_integer" = some (some (.ref g3))) (l3 : K.lookup g3 = some ⟨oc3, od3, .func (PySem.W.fnOf "read_integer" "read_integer" (fnArgs s_read_integer) (fnBody s_read_integer) (fnScope s_read_integer) .none kV3 dc3 pm3 an3 cd3 ct3), sl3⟩) (c3 : PySem.W.codeIn K cd3 "read_integer" = true) (k3 : PySem.W.keepIn K (.ref g3) = true)
  (a4 : PySem.W.nsIn K mainGlobals "check_of" = some (some (.ref g4))) (l4 : K.lookup g4 = some ⟨oc4, od4, .func (PySem.W.fnOf "check_of" "check_of" (fnArgs s_check_of) (fnBody s_check_of) (fnScope s_check_of) .none kV4 dc4 pm4 an4 cd4 ct4), sl4⟩) (c4 : PySem.W.codeIn K cd4 "check_of" = true) (k4 : PySem.W.keepIn K (.ref g4) = true)
  (a5 : PySem.W.nsIn K mainGlobals "sealed" = some (some (.ref g5))) (l5 : K.lookup g5 = some ⟨oc5, od5, .func (PySem.W.fnOf "sealed" "sealed" (fnArgs s_sealed) (fnBody s_sealed) (fnScope s_sealed) .none kV5 dc5 pm5 an5 cd5 ct5), sl5⟩) (c5 : PySem.W.codeIn K cd5 "sealed" = true) (k5 : PySem.W.keepIn K (.ref g5) = true)
  (a6 : PySem.W.nsIn K mainGlobals "is_sealed" = some (some (.ref g6))) (l6 : K.lookup g6 = some ⟨oc6, od6, .func (PySem.W.fnOf "is_sealed" "is_sealed" (fnArgs s_is_sealed) (fnBody s_is_sealed) (fnScope s_is_sealed) .none kV6 dc6 pm6 an6 cd6 ct6), sl6⟩) (c6 : PySem.W.codeIn K cd6 "is_sealed" = true) (k6 : PySem.W.keepIn K (.ref g6) = true)
  (a7 : PySem.W.nsIn K mainGlobals "_law_take" = some (some (.ref g7))) (l7 : K.lookup g7 = some ⟨oc7, od7, .func (PySem.W.fnOf "_law_take" "_law_take" (fnArgs s__law_take) (fnBody s__law_take) (fnScope s__law_take) .none kV7 dc7 pm7 an7 cd7 ct7), sl7⟩) (c7 : PySem.W.codeIn K cd7 "_law_take" = true) (k7 : PySem.W.keepIn K (.ref g7) = true)
  (a8 : PySem.W.nsIn K mainGlobals "_law_some" = some (some (.ref g8))) (l8 : K.lookup g8 = some ⟨oc8, od8, .func (PySem.W.fnOf "_law_some" "_law_some" (fnArgs s__law_some) (fnBody s__law_some) (fnScope s__law_some) .none kV8 dc8 pm8 an8 cd8 ct8), sl8⟩) (c8 : PySem.W.codeIn K cd8 "_law_some" = true) (k8 : PySem.W.keepIn K (.ref g8) = true)
  (a9 : PySem.W.nsIn K mainGlobals "_law_alike" = some (some (.ref g9))) (l9 : K.lookup g9 = some ⟨oc9, od9, .func (PySem.W.fnOf "_law_alike" "_law_alike" (fnArgs s__law_alike) (fnBody s__law_alike) (fnScope s__law_alike) .none kV9 dc9 pm9 an9 cd9 ct9), sl9⟩) (c9 : PySem.W.codeIn K cd9 "_law_alike" = true) (k9 : PySem.W.keepIn K (.ref g9) = true)
  (a10 : PySem.W.nsIn K mainGlobals "_law_integer" = some (some (.ref g10))) (l10 : K.lookup g10 = some ⟨oc10, od10, .func (PySem.W.fnOf "_law_integer" "_law_integer" (fnArgs s__law_integer) (fnBody s__law_integer) (fnScope s__law_integer) .none kV10 dc10 pm10 an10 cd10 ct10), sl10⟩) (c10 : PySem.W.codeIn K cd10 "_law_integer" = true) (k10 : PySem.W.keepIn K (.ref g10) = true)
  (a11 : PySem.W.nsIn K mainGlobals "_law_check" = some (some (.ref g11))) (l11 : K.lookup g11 = some ⟨oc11, od11, .func (PySem.W.fnOf "_law_check" "_law_check" (fnArgs s__law_check) (fnBody s__law_check) (fnScope s__law_check) .none kV11 dc11 pm11 an11 cd11 ct11), sl11⟩) (c11 : PySem.W.codeIn K cd11 "_law_check" = true) (k11 : PySem.W.keepIn K (.ref g11) = true)
  (a12 : PySem.W.nsIn K mainGlobals "_law_sealed" = some (some (.ref g12))) (l12 : K.lookup g12 = some ⟨oc12, od12, .func (PySem.W.fnOf "_law_sealed" "_law_sealed" (fnArgs s__law_sealed) (fnBody s__law_sealed) (fnScope s__law_sealed) .none kV12 dc12 pm12 an12 cd12 ct12), sl12⟩) (c12 : PySem.W.codeIn K cd12 "_law_sealed" = true) (k12 : PySem.W.keepIn K (.ref g12) = true)
  (a13 : PySem.W.nsIn K mainGlobals "_law_octets" = some (some (.ref g13))) (l13 : K.lookup g13 = some ⟨oc13, od13, .func (PySem.W.fnOf "_law_octets" "_law_octets" (fnArgs s__law_octets) (fnBody s__law_octets) (fnScope s__law_octets) .none kV13 dc13 pm13 an13 cd13 ct13), sl13⟩) (c13 : PySem.W.codeIn K cd13 "_law_octets" = true) (k13 : PySem.W.keepIn K (.ref g13) = true)
  (a14 : PySem.W.nsIn K mainGlobals "_law_bag" = some (some (.ref g14))) (l14 : K.lookup g14 = some ⟨oc14, od14, .func (PySem.W.fnOf "_law_bag" "_law_bag" (fnArgs s__law_bag) (fnBody s__law_bag) (fnScope s__law_bag) .none kV14 dc14 pm14 an14 cd14 ct14), sl14⟩) (c14 : PySem.W.codeIn K cd14 "_law_bag" = true) (k14 : PySem.W.keepIn K (.ref g14) = true)
  (a15 : PySem.W.nsIn K mainGlobals "law" = some (some (.ref g15))) (l15 : K.lookup g15 = some ⟨oc15, od15, .func (PySem.W.fnOf "law" "law" (fnArgs s_law) (fnBody s_law) (fnScope s_law) .none kV15 dc15 pm15 an15 (.ref cL15) ct15), sl15⟩) (c15 : PySem.W.codeIn K (.ref cL15) "law" = true) (k15 : PySem.W.keepIn K (.ref g15) = true)
  (qL15 : K.lookup cL15 = some ⟨eL15, dL15, .fields vL15, sL15⟩) (wL15 : vL15[11]? = some (.ref PL15)) (nL15 : K.lookup PL15 = none) (rL15 : ((PyProof.Rows.recsOf q).find? fun e => e.name == ("law" : Str)).isSome = true)
  (zL_beginnings : PySem.W.nsIn K mainGlobals "beginnings" = some none)
  (zL__law_begins : PySem.W.nsIn K mainGlobals "_law_begins" = some none)
  (zL_as_terms : PySem.W.nsIn K mainGlobals "as_terms" = some none)
  (zL__law_terms : PySem.W.nsIn K mainGlobals "_law_terms" = some none)
  (zL__law_word_asked : PySem.W.nsIn K mainGlobals "_law_word_asked" = some none)
  (zL__law_is_summer_right : PySem.W.nsIn K mainGlobals "_law_is_summer_right" = some none)
  (zL_infixes : PySem.W.nsIn K mainGlobals "infixes" = some none)
  (zL__law_are_ratios_right : PySem.W.nsIn K mainGlobals "_law_are_ratios_right" = some none)
  (zL__law_are_slips_right : PySem.W.nsIn K mainGlobals "_law_are_slips_right" = some none)
  (zL__law_is_machine_right : PySem.W.nsIn K mainGlobals "_law_is_machine_right" = some none)
  (zL__law_is_long_right : PySem.W.nsIn K mainGlobals "_law_is_long_right" = some none)
  (zL__law_are_classes_right : PySem.W.nsIn K mainGlobals "_law_are_classes_right" = some none)
  (zL__law_is_text_right : PySem.W.nsIn K mainGlobals "_law_is_text_right" = some none)
  (zL__law_are_judged : PySem.W.nsIn K mainGlobals "_law_are_judged" = some none)
  (gC_BadBytes : PySem.W.nsIn K mainGlobals "BadBytes" = some (some (.ref C_BadBytes)))
  (xL_BadBytes : K.lookup C_BadBytes = some (excClassObj nm_BadBytes q_BadBytes C_BadBytes N_BadBytes bs_BadBytes bm_BadBytes true sn_BadBytes sub_BadBytes ab_BadBytes col_BadBytes dd_BadBytes m0_BadBytes m1_BadBytes m2_BadBytes m3_BadBytes m5_BadBytes "ValueError.__new__"))
  (rv_BadBytes : PySem.PX.refsVE bm_BadBytes = true)
  (sa_BadBytes : PySem.W.findIn K (.ref C_BadBytes) "__setattr__" = some (some (.builtin "object.__setattr__")))
  (ga_BadBytes : PySem.W.findIn K (.ref C_BadBytes) "__getattribute__" = some (some (.builtin "BaseException.__getattribute__")))
  (gg_BadBytes : PySem.W.findIn K (.ref C_BadBytes) "__getattr__" = some none)
  (at_index_BadBytes : PySem.W.findIn K (.ref C_BadBytes) "index" = some none)
  (at_fault_BadBytes : PySem.W.findIn K (.ref C_BadBytes) "fault" = some none)
  (iC_BadBytes : PySem.W.findIn K (.ref C_BadBytes) "__init__" = some (some (.ref fI_BadBytes)))
  (tC_BadBytes : PySem.W.typeIn K (.ref fI_BadBytes) = some (.type "function"))
  (kC_BadBytes : PySem.W.keepIn K (.ref C_BadBytes) = true)
  (exC_BadBytes : PySem.W.subIn K (.ref C_BadBytes) (.type "BaseException") = some true)
  (tyC_BadBytes : PySem.W.typeIn K (.ref C_BadBytes) = some (.type "type"))
  (hdC_BadBytes : PySem.W.hasDictIn K C_BadBytes = true)
  (icl_BadBytes : PySem.W.isClsIn K C_BadBytes = true)
  (scc_BadBytes : PySem.W.subIn K (.ref C_BadBytes) (.ref C_BadBytes) = some true)
  (sup_BadBytes : PySem.W.ks_superIn K C_BadBytes C_BadBytes "__init__" = some (some (.builtin "ValueError.__init__")))
  (subV_BadBytes : PySem.W.subIn K (.ref C_BadBytes) (.type "ValueError") = some true)
  (subC_BadBytes : PySem.W.mroIn K C_BadBytes (.ref C_BadBytes) = some true)
  (opq_BadBytes : PySem.W.nsIn K cStatics "thirdparty.any" = some none)
  (gS_BadBytes : PySem.W.nsIn K mainGlobals "super" = some none)
  (fn_BadBytes : K.lookup fI_BadBytes = some ⟨oc_BadBytes, od_BadBytes, .func (PySem.W.ksFn "__init__" "BadBytes.__init__" (L2.defArgs PySem.OwnBadBytes.sI) (L2.defBody PySem.OwnBadBytes.sI) (L2.defScope PySem.OwnBadBytes.sI) .none .none doc_BadBytes pm_BadBytes an_BadBytes (.ref cda_BadBytes) ct_BadBytes cc_BadBytes), osl_BadBytes⟩)
  (cell_BadBytes : K.lookup cc_BadBytes = some ⟨cl_BadBytes, cld_BadBytes, .cell (some (.ref C_BadBytes)), csl_BadBytes⟩)
  (cod_BadBytes : K.lookup cda_BadBytes = some ⟨ccl_BadBytes, cdd_BadBytes, .fields vs_BadBytes, ccs_BadBytes⟩)
  (v2_BadBytes : vs_BadBytes[2]? = some (.str file_BadBytes tf_BadBytes))
  (fil_BadBytes : ((l.prog.main.file : Str) == file_BadBytes) = true)
  (top_BadBytes : l.prog.main.scope.names.lookup ("super" : Str) = none)
  (cdi_BadBytes : PySem.W.codeIn K (.ref cda_BadBytes) "BadBytes.__init__" = true)
  (z_abs : PySem.W.nsIn K mainGlobals "abs" = some none)
  (z_bool : PySem.W.nsIn K mainGlobals "bool" = some none)
  (z_int : PySem.W.nsIn K mainGlobals "int" = some none)
  (z_isinstance : PySem.W.nsIn K mainGlobals "isinstance" = some none)
  (z_len : PySem.W.nsIn K mainGlobals "len" = some none)
  (z_list : PySem.W.nsIn K mainGlobals "list" = some none)
  (z_min : PySem.W.nsIn K mainGlobals "min" = some none)
  (z_range : PySem.W.nsIn K mainGlobals "range" = some none)
  (z_str : PySem.W.nsIn K mainGlobals "str" = some none)
  (z_tuple : PySem.W.nsIn K mainGlobals "tuple" = some none)
  (z_zip : PySem.W.nsIn K mainGlobals "zip" = some none)
  (q_CHECK : PySem.W.nsIn K mainGlobals "CHECK" = some (some (.int 4 t_CHECK)))
  (q_FACTOR : PySem.W.nsIn K mainGlobals "FACTOR" = some (some (.int 257 t_FACTOR)))
  (q_GROUP : PySem.W.nsIn K mainGlobals "GROUP" = some (some (.int 7 t_GROUP)))
  (q_HALF : PySem.W.nsIn K mainGlobals "HALF" = some (some (.int 128 t_HALF)))
  (q_MODULUS : PySem.W.nsIn K mainGlobals "MODULUS" = some (some (.int 4294967291 t_MODULUS))) :
  LamX.LawAtS l w K C8.CX0 6 63 "script" mg fa h := by
  have e := hfa.symm.trans (PySem.W.mg_of X G a15)
  cases e
  have T : Txt K mg := ⟨PySem.W.mg_none_of X G z_abs, PySem.W.mg_none_of X G z_bool, PySem.W.mg_none_of X G z_int, PySem.W.mg_none_of X G z_isinstance, PySem.W.mg_none_of X G z_len, PySem.W.mg_none_of X G z_list, PySem.W.mg_none_of X G z_min, PySem.W.mg_none_of X G z_range, PySem.W.mg_none_of X G z_str, PySem.W.mg_none_of X G z_tuple, PySem.W.mg_none_of X G z_zip, ⟨⟨_, PySem.W.mg_of X G q_CHECK, ⟨t_CHECK, rfl⟩⟩, fun _ => .int _⟩, ⟨⟨_, PySem.W.mg_of X G q_FACTOR, ⟨t_FACTOR, rfl⟩⟩, fun _ => .int _⟩, ⟨⟨_, PySem.W.mg_of X G q_GROUP, ⟨t_GROUP, rfl⟩⟩, fun _ => .int _⟩, ⟨⟨_, PySem.W.mg_of X G q_HALF, ⟨t_HALF, rfl⟩⟩, fun _ => .int _⟩, ⟨⟨_, PySem.W.mg_of X G q_MODULUS, ⟨t_MODULUS, rfl⟩⟩, fun _ => .int _⟩⟩
  have tab_law := tab_by a15 l15 rfl qL15 wL15
  have tab_beginnings := tab_no zL_beginnings
  have tab__law_begins := tab_no zL__law_begins
  have tab_as_terms := tab_no zL_as_terms
  have tab__law_terms := tab_no zL__law_terms
  have tab__law_word_asked := tab_no zL__law_word_asked
  have tab__law_is_summer_right := tab_no zL__law_is_summer_right
  have tab_infixes := tab_no zL_infixes
  have tab__law_are_ratios_right := tab_no zL__law_are_ratios_right
  have tab__law_are_slips_right := tab_no zL__law_are_slips_right
  have tab__law_is_machine_right := tab_no zL__law_is_machine_right
  have tab__law_is_long_right := tab_no zL__law_is_long_right
  have tab__law_are_classes_right := tab_no zL__law_are_classes_right
  have tab__law_is_text_right := tab_no zL__law_is_text_right
  have tab__law_are_judged := tab_no zL__law_are_judged
  have hTK : TK K = [(PL15, lamQ "law")] := by
    unfold TK LAMS
    simp only [List.filterMap_cons, List.filterMap_nil, tab_law, tab_beginnings, tab__law_begins, tab_as_terms, tab__law_terms, tab__law_word_asked, tab__law_is_summer_right, tab_infixes, tab__law_are_ratios_right, tab__law_are_slips_right, tab__law_is_machine_right, tab__law_is_long_right, tab__law_are_classes_right, tab__law_is_text_right, tab__law_are_judged, Option.map_some, Option.map_none]
  have F0 : Def K mg "_wall" s__wall g0 _ := ⟨⟨_, _, _, _, _, _, _, _, _, _, rfl, l0, c0⟩, PySem.W.mg_of X G a0, k0⟩
  have b0 := F0.fn.binds rfl (ps := ["k"]) fun _ _ _ _ _ _ us hl => match us, hl with | [_], _ => rfl
  have F1 : Def K mg "integer_octets" s_integer_octets g1 _ := ⟨⟨_, _, _, _, _, _, _, _, _, _, rfl, l1, c1⟩, PySem.W.mg_of X G a1, k1⟩
  have b1 := F1.fn.binds rfl (ps := ["number"]) fun _ _ _ _ _ _ us hl => match us, hl with | [_], _ => rfl
  have F2 : Def K mg "bits_of" s_bits_of g2 _ := ⟨⟨_, _, _, _, _, _, _, _, _, _, rfl, l2, c2⟩, PySem.W.mg_of X G a2, k2⟩
  have b2 := F2.fn.binds rfl (ps := ["octet"]) fun _ _ _ _ _ _ us hl => match us, hl with | [_], _ => rfl
  have F3 : Def K mg "read_integer" s_read_integer g3 _ := ⟨⟨_, _, _, _, _, _, _, _, _, _, rfl, l3, c3⟩, PySem.W.mg_of X G a3, k3⟩
  have b3 := F3.fn.binds rfl (ps := ["octets", "place"]) fun _ _ _ _ _ _ us hl => match us, hl with | [_, _], _ => rfl
  have F4 : Def K mg "check_of" s_check_of g4 _ := ⟨⟨_, _, _, _, _, _, _, _, _, _, rfl, l4, c4⟩, PySem.W.mg_of X G a4, k4⟩
  have b4 := F4.fn.binds rfl (ps := ["octets"]) fun _ _ _ _ _ _ us hl => match us, hl with | [_], _ => rfl
  have F5 : Def K mg "sealed" s_sealed g5 _ := ⟨⟨_, _, _, _, _, _, _, _, _, _, rfl, l5, c5⟩, PySem.W.mg_of X G a5, k5⟩
  have b5 := F5.fn.binds rfl (ps := ["octets"]) fun _ _ _ _ _ _ us hl => match us, hl with | [_], _ => rfl
  have F6 : Def K mg "is_sealed" s_is_sealed g6 _ := ⟨⟨_, _, _, _, _, _, _, _, _, _, rfl, l6, c6⟩, PySem.W.mg_of X G a6, k6⟩
  have b6 := F6.fn.binds rfl (ps := ["octets"]) fun _ _ _ _ _ _ us hl => match us, hl with | [_], _ => rfl
  have F7 : Def K mg "_law_take" s__law_take g7 _ := ⟨⟨_, _, _, _, _, _, _, _, _, _, rfl, l7, c7⟩, PySem.W.mg_of X G a7, k7⟩
  have b7 := F7.fn.binds rfl (ps := ["bag", "many"]) fun _ _ _ _ _ _ us hl => match us, hl with | [_, _], _ => rfl
  have F8 : Def K mg "_law_some" s__law_some g8 _ := ⟨⟨_, _, _, _, _, _, _, _, _, _, rfl, l8, c8⟩, PySem.W.mg_of X G a8, k8⟩
  have b8 := F8.fn.binds rfl (ps := ["bag", "things"]) fun _ _ _ _ _ _ us hl => match us, hl with | [_, _], _ => rfl
  have F9 : Def K mg "_law_alike" s__law_alike g9 _ := ⟨⟨_, _, _, _, _, _, _, _, _, _, rfl, l9, c9⟩, PySem.W.mg_of X G a9, k9⟩
  have b9 := F9.fn.binds rfl (ps := ["found", "due"]) fun _ _ _ _ _ _ us hl => match us, hl with | [_, _], _ => rfl
  have F10 : Def K mg "_law_integer" s__law_integer g10 _ := ⟨⟨_, _, _, _, _, _, _, _, _, _, rfl, l10, c10⟩, PySem.W.mg_of X G a10, k10⟩
  have b10 := F10.fn.binds rfl (ps := ["number"]) fun _ _ _ _ _ _ us hl => match us, hl with | [_], _ => rfl
  have F11 : Def K mg "_law_check" s__law_check g11 _ := ⟨⟨_, _, _, _, _, _, _, _, _, _, rfl, l11, c11⟩, PySem.W.mg_of X G a11, k11⟩
  have b11 := F11.fn.binds rfl (ps := ["octets"]) fun _ _ _ _ _ _ us hl => match us, hl with | [_], _ => rfl
  have F12 : Def K mg "_law_sealed" s__law_sealed g12 _ := ⟨⟨_, _, _, _, _, _, _, _, _, _, rfl, l12, c12⟩, PySem.W.mg_of X G a12, k12⟩
  have b12 := F12.fn.binds rfl (ps := ["octets"]) fun _ _ _ _ _ _ us hl => match us, hl with | [_], _ => rfl
  have F13 : Def K mg "_law_octets" s__law_octets g13 _ := ⟨⟨_, _, _, _, _, _, _, _, _, _, rfl, l13, c13⟩, PySem.W.mg_of X G a13, k13⟩
  have b13 := F13.fn.binds rfl (ps := ["deed"]) fun _ _ _ _ _ _ us hl => match us, hl with | [_], _ => rfl
  have F14 : Def K mg "_law_bag" s__law_bag g14 _ := ⟨⟨_, _, _, _, _, _, _, _, _, _, rfl, l14, c14⟩, PySem.W.mg_of X G a14, k14⟩
  have b14 := F14.fn.binds rfl (ps := ["script"]) fun _ _ _ _ _ _ us hl => match us, hl with | [_], _ => rfl
  have X_BadBytes : PySem.OwnBadBytes.Txt l.prog K mg C_BadBytes fI_BadBytes cc_BadBytes cda_BadBytes := { gC := PySem.W.mg_of X G gC_BadBytes, cls := ⟨_, _, _, _, _, _, _, _, _, _, _, _, _, _, _, xL_BadBytes, rv_BadBytes⟩, sa := sa_BadBytes, ga := ga_BadBytes, gg := gg_BadBytes, at_index := at_index_BadBytes, at_fault := at_fault_BadBytes, iC := iC_BadBytes, tC := tC_BadBytes, kC := kC_BadBytes, exC := exC_BadBytes, tyC := tyC_BadBytes, hdC := hdC_BadBytes, te := exm_me exC_BadBytes icl_BadBytes tyC_BadBytes scc_BadBytes, sup := sup_BadBytes, subV := subV_BadBytes, subC := subC_BadBytes, opq := opq_BadBytes, gS := PySem.W.mg_none_of X G gS_BadBytes, cell := ⟨_, _, _, cell_BadBytes⟩, code := ⟨_, _, _, _, _, _, cod_BadBytes, v2_BadBytes, fil_BadBytes⟩, top := by rw [top_BadBytes]; rfl, fn := ⟨_, _, _, _, _, _, _, fn_BadBytes, cdi_BadBytes⟩ }
  have FL : C8.Fun K "law" "law" s_law _ _ := ⟨_, _, _, _, _, _, _, _, _, _, rfl, l15, c15⟩
  refine ⟨PySem.W.fnOf "law" "law" (fnArgs s_law) (fnBody s_law) (fnScope s_law) .none kV15 dc15 pm15 an15 (.ref cL15) ct15, [(cL15, PL15)], spLawT K, fun p hp => ?_, fun p hp => ?_, fun p hp => ?_, fun s v => .of_eq rfl, fun H a ns hl _ hH hS => ?_, fun base _ _ hTB => ?_⟩
  · simp only [List.mem_cons, List.not_mem_nil, or_false] at hp
    rcases hp with rfl
    exact (tt "law" _ _ rL15 tab_law).2
  · simp only [List.mem_cons, List.not_mem_nil, or_false] at hp
    rcases hp with rfl
    exact nL15
  · simp only [List.mem_cons, List.not_mem_nil, or_false] at hp
    rcases hp with rfl
    exact (tt "law" _ _ rL15 tab_law).1
  · refine ⟨a, ns, rfl, hS, hl, fun p hp => ?_, fun _ => rfl⟩
    rw [hTK] at hp
    simp only [List.mem_cons, List.not_mem_nil, or_false] at hp
    rcases hp with rfl
    exact hH (cL15, PL15) (by simp)
  · skip
    have LK_law : LamK K mg base _ "law" cL15 PL15 := ⟨(rfl : (PySem.W.fnOf "law" "law" (fnArgs s_law) (fnBody s_law) (fnScope s_law) .none kV15 dc15 pm15 an15 (.ref cL15) ct15).code = .ref cL15), hTB (cL15, PL15) (by simp), by rw [hTK]; simp, fun p hp e => by rw [hTK] at hp; simp only [List.mem_cons, List.not_mem_nil, or_false] at hp; subst hp; rfl⟩
    have c__wall := ok__wall (P := l.prog) (w := w) (base := base) F0 b0 T 
    have c_integer_octets := ok_integer_octets (P := l.prog) (w := w) (base := base) F1 b1 T 
    have c_bits_of := ok_bits_of (P := l.prog) (w := w) (base := base) F2 b2 T 
    have c_read_integer := ok_read_integer (P := l.prog) (w := w) (base := base) F3 b3 T c_bits_of X_BadBytes
    have c_check_of := ok_check_of (P := l.prog) (w := w) (base := base) F4 b4 T 
    have c_sealed := ok_sealed (P := l.prog) (w := w) (base := base) F5 b5 T c_check_of
    have c_is_sealed := ok_is_sealed (P := l.prog) (w := w) (base := base) F6 b6 T c_sealed
    have c__law_take := ok__law_take (P := l.prog) (w := w) (base := base) F7 b7 T 
    have c__law_some := ok__law_some (P := l.prog) (w := w) (base := base) F8 b8 T c__law_take
    have c__law_alike := ok__law_alike (P := l.prog) (w := w) (base := base) F9 b9 T 
    have c__law_integer := ok__law_integer (P := l.prog) (w := w) (base := base) F10 b10 T 
    have c__law_check := ok__law_check (P := l.prog) (w := w) (base := base) F11 b11 T 
    have c__law_sealed := ok__law_sealed (P := l.prog) (w := w) (base := base) F12 b12 T c__law_check
    have c_bag := ok__law_bag (P := l.prog) (w := w) (base := base) F14 b14 T
    exact ok_law FL T c_bag c__law_take c__law_some c__law_integer c_integer_octets c_read_integer c__law_alike c__law_sealed c_check_of c_sealed c_is_sealed c__law_check X_BadBytes F13 b13 LK_law hm

end DL
open PySem PySem.W PyProof.Rows in
set_option maxRecDepth 100000 in
set_option maxHeartbeats 0 in
theorem PySem.Challenge.cw_stillsums_k38_octets_of_integers_and_che_holds : PySem.Challenge.rw_stillsums_k38_octets_of_integers_and_che.Holds := by
  w_on; o_law; k_head; (case hw => w_witness2)
  k_fill
  refine DL.walkT (l := PySem.Challenge.rw_stillsums_k38_octets_of_integers_and_che) (k := 6) rfl rfl ⟨rfl, by decide, by decide⟩ (fun w h Y => by first | exact PySem.W.kIn_of Y | exact PySem.W.km_in_of Y) ?F
  case F =>
    intro w mg fa h KX G hmg tt
    refine' DL.all_mk KX G hmg tt DL.plain_law ?a0 ?l0 ?c0 ?k0 ?a1 ?l1 ?c1 ?k1 ?a2 ?l2 ?c2 ?k2 ?a3 ?l3 ?c3 ?k3 ?a4 ?l4 ?c4 ?k4 ?a5 ?l5 ?c5 ?k5 ?a6 ?l6 ?c6 ?k6 ?a7 ?l7 ?c7 ?k7 ?a8 ?l8 ?c8 ?k8 ?a9 ?l9 ?c9 ?k9 ?a10 ?l10 ?c10 ?k10 ?a11 ?l11 ?c11 ?k11 ?a12 ?l12 ?c12 ?k12 ?a13 ?l13 ?c13 ?k13 ?a14 ?l14 ?c14 ?k14 ?a15 ?l15 ?c15 ?k15 ?qL15 ?wL15 ?nL15 ?rL15 ?zL_beginnings ?zL__law_begins ?zL_as_terms ?zL__law_terms ?zL__law_word_asked ?zL__law_is_summer_right ?zL_infixes ?zL__law_are_ratios_right ?zL__law_are_slips_right ?zL__law_is_machine_right ?zL__law_is_long_right ?zL__law_are_classes_right ?zL__law_is_text_right ?zL__law_are_judged ?gC_BadBytes ?xL_BadBytes ?rv_BadBytes ?sa_BadBytes ?ga_BadBytes ?gg_BadBytes ?at_index_BadBytes ?at_fault_BadBytes ?iC_BadBytes ?tC_BadBytes ?kC_BadBytes ?exC_BadBytes ?tyC_BadBytes ?hdC_BadBytes ?icl_BadBytes ?scc_BadBytes ?sup_BadBytes ?subV_BadBytes ?subC_BadBytes ?opq_BadBytes ?gS_BadBytes ?fn_BadBytes ?cell_BadBytes ?cod_BadBytes ?v2_BadBytes ?fil_BadBytes ?top_BadBytes ?cdi_BadBytes ?z_abs ?z_bool ?z_int ?z_isinstance ?z_len ?z_list ?z_min ?z_range ?z_str ?z_tuple ?z_zip ?q_CHECK ?q_FACTOR ?q_GROUP ?q_HALF ?q_MODULUS
    (case a0 => k_is)
    (case l0 => k_is)
    (case c0 => k_is)
    (case k0 => k_is)
    (case a1 => k_is)
    (case l1 => k_is)
    (case c1 => k_is)
    (case k1 => k_is)
    (case a2 => k_is)
    (case l2 => k_is)
    (case c2 => k_is)
    (case k2 => k_is)
    (case a3 => k_is)
    (case l3 => k_is)
    (case c3 => k_is)
    (case k3 => k_is)
    (case a4 => k_is)
    (case l4 => k_is)
    (case c4 => k_is)
    (case k4 => k_is)
    (case a5 => k_is)
    (case l5 => k_is)
    (case c5 => k_is)
    (case k5 => k_is)
    (case a6 => k_is)
    (case l6 => k_is)
    (case c6 => k_is)
    (case k6 => k_is)
    (case a7 => k_is)
    (case l7 => k_is)
    (case c7 => k_is)
    (case k7 => k_is)
    (case a8 => k_is)
    (case l8 => k_is)
    (case c8 => k_is)
    (case k8 => k_is)
    (case a9 => k_is)
    (case l9 => k_is)
    (case c9 => k_is)
    (case k9 => k_is)
    (case a10 => k_is)
    (case l10 => k_is)
    (case c10 => k_is)
    (case k10 => k_is)
    (case a11 => k_is)
    (case l11 => k_is)
    (case c11 => k_is)
    (case k11 => k_is)
    (case a12 => k_is)
    (case l12 => k_is)
    (case c12 => k_is)
    (case k12 => k_is)
    (case a13 => k_is)
    (case l13 => k_is)
    (case c13 => k_is)
    (case k13 => k_is)
    (case a14 => k_is)
    (case l14 => k_is)
    (case c14 => k_is)
    (case k14 => k_is)
    (case a15 => k_is)
    (case l15 => k_is)
    (case c15 => k_is)
    (case k15 => k_is)
    (case qL15 => k_is)
    (case wL15 => first | rfl | decide)
    (case nL15 => first | rfl | kernel_rfl)
    (case rL15 => first | rfl | decide +kernel)
    (case zL_beginnings => k_is)
    (case zL__law_begins => k_is)
    (case zL_as_terms => k_is)
    (case zL__law_terms => k_is)
    (case zL__law_word_asked => k_is)
    (case zL__law_is_summer_right => k_is)
    (case zL_infixes => k_is)
    (case zL__law_are_ratios_right => k_is)
    (case zL__law_are_slips_right => k_is)
    (case zL__law_is_machine_right => k_is)
    (case zL__law_is_long_right => k_is)
    (case zL__law_are_classes_right => k_is)
    (case zL__law_is_text_right => k_is)
    (case zL__law_are_judged => k_is)
    (case gC_BadBytes => k_is)
    (case xL_BadBytes => k_is)
    (case rv_BadBytes => first | rfl | decide +kernel)
    (case sa_BadBytes => k_is)
    (case ga_BadBytes => k_is)
    (case gg_BadBytes => k_is)
    (case at_index_BadBytes => k_is)
    (case at_fault_BadBytes => k_is)
    (case iC_BadBytes => k_is)
    (case tC_BadBytes => k_is)
    (case kC_BadBytes => k_is)
    (case exC_BadBytes => k_is)
    (case tyC_BadBytes => k_is)
    (case hdC_BadBytes => k_is)
    (case icl_BadBytes => k_is)
    (case scc_BadBytes => first | rfl | k_is)
    (case sup_BadBytes => ks_is)
    (case subV_BadBytes => k_is)
    (case subC_BadBytes => k_is)
    (case opq_BadBytes => k_is)
    (case gS_BadBytes => k_is)
    (case fn_BadBytes => k_is)
    (case cell_BadBytes => k_is)
    (case cod_BadBytes => k_is)
    (case v2_BadBytes => first | rfl | decide)
    (case fil_BadBytes => first | rfl | decide +kernel)
    (case top_BadBytes => first | rfl | decide +kernel)
    (case cdi_BadBytes => k_is)
    (case z_abs => k_is)
    (case z_bool => k_is)
    (case z_int => k_is)
    (case z_isinstance => k_is)
    (case z_len => k_is)
    (case z_list => k_is)
    (case z_min => k_is)
    (case z_range => k_is)
    (case z_str => k_is)
    (case z_tuple => k_is)
    (case z_zip => k_is)
    (case q_CHECK => k_is)
    (case q_FACTOR => k_is)
    (case q_GROUP => k_is)
    (case q_HALF => k_is)
    (case q_MODULUS => k_is)
