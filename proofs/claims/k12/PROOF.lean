import PyProof.Rows.All
import Wide.All
import OpenK.AllK
import Wide.FinOn
import HandS.ForMost
import HandS.IsInst
import HandS.TupAny
import HandS.TupMul
import HandS.Strs
import HandS.Deep
import HandS.Exc
import HandS.Lambda
import HandS.SortInts
import PyProof.CollectWalk
import PyProof.ListNew
import KE.KDictZip
import HandS.Zip0
import HandS.Zip
import HandS.Codes
import HandS.SetFor
import HandS.Style
import HandS.DictComp
import HandS.More
import HandS.WordsDict
import HandS.Iter
import HandS.ExcOwn
import KE.KExcPX
import KE.KExcSuper
import HandS.EndTab
import KE.GoesMore
import PyProof.Rows.StrMeet
import HandS.Star
import KE.KDictPairs
import HandS.Set
import KE.RegKSuper
import HandS.WordsExc
import PySem.Challenge.RW_stillsums_k12_short_rows_and_what_is_lef
set_option Elab.async false
set_option linter.all false
set_option maxRecDepth 100000
set_option maxHeartbeats 2000000
/-! ZT: tuples of which it is kept that they have no dict of their own (then their methods may be called). -/
namespace ZT
open PySem PySem.Spec PyProof.Rows L2
/-- a tuple that has no dict -/
def PT (K : PySem.W.Frag) (H : Hp) (a : Addr) (xs : List V) : Prop :=
  (∃ ob : Obj, H a = some (.frz ob (.tup xs)) ∧ ob.dict = none) ∨
    ∃ (ob : Obj) (us : Array Value) (n : Nat), K.lookup a = some ob ∧ ob.cls = .type "tuple" ∧ ob.dict = none ∧ ob.data = .seq us n ∧ us.size ≤ sizeLine ∧ Vals xs us.toList
theorem PT.sq {K : PySem.W.Frag} {H : Hp} {a : Addr} {xs : List V} (h : PT K H a xs) : SqT K H a xs := by
  rcases h with ⟨ob, h, _⟩ | ⟨ob, us, n, h1, h2, _, h4, h5, h6⟩
  · exact .inl (.inr ⟨ob, h⟩)
  · exact .inr ⟨ob, us, n, h1, h2, h4, h5, h6⟩
theorem PT.new {K : PySem.W.Frag} {H : Hp} {p : Addr} {ob : Obj} {xs : List V} (h : ob.dict = none) : PT K (upd H p (.frz ob (.tup xs))) p xs := .inl ⟨ob, upd_same, h⟩
theorem PT.at {K : PySem.W.Frag} {H : Hp} {p : Addr} {ob : Obj} {xs : List V} (e : H p = some (.frz ob (.tup xs))) (h : ob.dict = none) : PT K H p xs := .inl ⟨ob, e, h⟩
abbrev newT (us : List Value) : Obj := { cls := .type "tuple", data := .seq us.toArray }
/-- what is asked where a tuple is made -/
abbrev Mk (Q : VK) (xs : List V) (H : Hp) : Prop := ∀ (p : Addr) (ob : Obj), H p = none → ob.dict = none → Q (.ref p) (upd H p (.frz ob (.tup xs)))
section
variable {X : Cx} {pins : List (Addr × Obj)} {σ : L2.St} {H : Hp} {s : Shared} {Q : VK}
theorem made {xs : List V} {us : List Value} {h' : Heap} {a : Addr} {t' : Nat} (I : Inv X pins σ H s) (k : ∀ b u, s.heap.get? b = some u → h'.get? b = some u) (hp : s.heap.objs.size ≤ a) (r : Vals xs us) (hz : xs.length ≤ sizeLine) (e : h'.get? a = some (newT us)) (q : Mk Q xs H) :
    EP X pins σ Q (.ref a) { s with heap := h', toks := t' } :=
  ⟨.ref a, _, I.laid (o := .frz (newT us) (.tup xs)) k hp (show ObjOk X.prog X.w _ _ _ (.frz (newT us) (.tup xs)) from ⟨e, hz, us, r, ⟨_, e, rfl, _, rfl⟩⟩), rfl, q a (newT us) (I.hok.fresh hp) rfl⟩
/-- (a, b, ..) -/
def tTupP (t : TA) : TE := fun σ H Q => t σ H fun xs H1 => xs.length ≤ sizeLine ∧ Mk Q xs H1
theorem pe_tupP {es : List Expr} {t : TA} {x1} {pos : Pos} (h : PA X es t) : PE X (.Tuple es x1 pos) (tTupP t) := by
  refine ⟨fun pins s σ H Q I hq => wpAny_Tuple_spliced (thn (h.run pos pins s σ H _ I hq) fun us s1 w => ?_)⟩
  obtain ⟨xs, H1, I1, r, z, q⟩ := w
  exact ⟨by rw [← r.length]; exact z, made (t' := s1.toks) I1 (fun b u e => Heap.get?_push_of_some _ e) (Nat.le_refl _) r z (Heap.get?_push_size _ rfl) q⟩
/-- tuple(xs) -/
def rTupleP (K : PySem.W.Frag) : List V → Hp → VK → Prop := fun xs H Q => ∃ p ys, xs = [.ref p] ∧ ((SqL K H p ys ∧ Mk Q ys H) ∨ (SqT K H p ys ∧ Q (.ref p) H))
theorem call_tupleP : CallR X (.type "tuple") (rTupleP X.K) := by
  intro pins s σ H vs us Q I r w
  obtain ⟨p, ys, rfl, w⟩ := w
  obtain ⟨_, rfl, e⟩ := vals1 r
  cases e
  rcases w with ⟨l, q⟩ | ⟨l, q⟩
  · obtain ⟨its, rv, pl, hz⟩ := I.list l
    have n := rv.length
    refine call_tuple_list pl.isList (fun h' kp => ?_) (by simp only [List.size_toArray]; omega)
    have I1 : Inv X pins σ H { s with heap := h' } := I.kept (t' := s.toks) kp
    exact made (s := { s with heap := h' }) (t' := s.toks) I1 (fun b o e => Heap.get?_push_of_some _ e) (Nat.le_refl _) rv hz (Heap.get?_push_size _ rfl) q
  · obtain ⟨_, _, pl, _⟩ := I.tuple l
    exact call_tuple_same pl ⟨.ref p, H, I, rfl, q⟩
/-- t[lo:hi] -/
def rSlP (K : PySem.W.Frag) : V → Option Int → Option Int → Hp → VK → Prop := fun x lo hi H Q => ∃ a xs, x = .ref a ∧ SqT K H a xs ∧
  (HT.sIx xs.length 0 lo = 0 ∧ HT.sIx xs.length xs.length hi = xs.length → Q (.ref a) H) ∧ (¬ (HT.sIx xs.length 0 lo = 0 ∧ HT.sIx xs.length xs.length hi = xs.length) → Mk Q (cutV xs lo hi) H)
theorem sl_tupP : SlR X (rSlP X.K) := by
  intro pins s σ H x v vl vu lo hi sl Q I rx hs pl pu w
  obtain ⟨a, xs, rfl, hx, q1, q2⟩ := w
  cases rx
  obtain ⟨its, rv, ht, hz⟩ := I.tuple hx
  have n : its.toArray.size = xs.length := by rw [List.size_toArray, rv.length]
  refine ⟨"tuple", _, PyProof.Rows.slot_tuple_getitem.lookup, ht.typeIs, ?_⟩
  by_cases c : HT.sIx xs.length 0 lo = 0 ∧ HT.sIx xs.length xs.length hi = xs.length
  · exact getItem_tuple_whole ht hs pl pu (by rw [n]; exact c) ⟨.ref a, H, I, rfl, q1 c⟩
  · refine HT.getItem_tuple_cut ht hs pl pu (by rw [n]; exact c) ?_ (by rw [n]; exact hz)
    rw [n]
    exact made (t' := s.toks) I (fun b ob q => Heap.get?_push_of_some _ q) (Nat.le_refl _) ((rv.drop _).take _) (Nat.le_trans (cutV_length xs lo hi) hz) (Heap.get?_push_size _ rfl) (q2 c)
/-- t + u -/
def rCatP (K : PySem.W.Frag) : R2 := fun x y H Q => ∃ a b xs ys, x = .ref a ∧ y = .ref b ∧ SqT K H a xs ∧ SqT K H b ys ∧ xs.length + ys.length ≤ sizeLine ∧
  (xs = [] → Q (.ref b) H) ∧ (xs ≠ [] → ys = [] → Q (.ref a) H) ∧ (xs ≠ [] → ys ≠ [] → Mk Q (xs ++ ys) H)
theorem op_catP : OpR X (binaryOp .Add) (rCatP X.K) := by
  intro pins s σ H x y v u Q I rx ry w
  obtain ⟨a, b, xs, ys, rfl, rfl, ha, hb, hz, q0, q1, q2⟩ := w
  cases rx
  cases ry
  obtain ⟨_, r1, p1, _⟩ := I.tuple ha
  obtain ⟨_, r2, p2, _⟩ := I.tuple hb
  by_cases e : xs = []
  · subst e
    cases r1
    exact cat_tup0 p1 p2 ⟨.ref b, H, I, rfl, q0 rfl⟩
  · refine HT.cat_tup p1 p2 (fun z => e (r1.nil_iff.mp z)) (fun z => ⟨.ref a, H, I, rfl, q1 e (r2.nil_iff.mp z)⟩) (fun z => ?_) (by rw [← r1.length, ← r2.length]; exact hz)
    have z' : ¬ ys = [] := fun m => z (r2.nil_iff.mpr m)
    exact made (t' := s.toks) I (fun b ob q => Heap.get?_push_of_some _ q) (Nat.le_refl _) (r1.append r2) (by rw [List.length_append]; exact hz) (Heap.get?_push_size _ rfl) (q2 e z')
/-- a method of a tuple -/
def tTM (K : PySem.W.Frag) (r : V → List V → Hp → VK → Prop) (to : TE) (t : TA) : TE := fun σ H Q => to σ H fun x H1 => (∃ a xs, x = .ref a ∧ PT K H1 a xs) ∧ t σ H1 fun ys H2 => r x ys H2 Q
theorem PT.plain {a : Addr} {xs : List V} (I : Inv X pins σ H s) (h : PT X.K H a xs) : s.TypeIs (.ref a) "tuple" ∧ ∀ b, Value.ref a = .ref b → ∃ ob, s.heap.get? b = some ob ∧ ob.dict = none := by
  rcases h with ⟨ob, h, hd⟩ | ⟨ob, us, n, h1, h2, hd, _⟩
  · obtain ⟨e, _, its, _, o2, e2, hc, _⟩ := I.hok a _ h
    exact ⟨⟨o2, e2, hc⟩, fun b z => by cases z; exact ⟨ob, e, hd⟩⟩
  · exact ⟨⟨ob, I.kIn a ob h1, h2⟩, fun b z => by cases z; exact ⟨ob, I.kIn _ ob h1, hd⟩⟩
theorem pe_tm {o e : Expr} {es : List Expr} {to : TE} {t : TA} {name : Str} {id : String} {apos cpos : Pos} {r : V → List V → Hp → VK → Prop} (slot : Slot "tuple" name id) (hty : typeOf (.builtin id) = pure (.type "method_descriptor")) (hm : MtR X id r) (ho : PE X o to) (ha : PA X (e :: es) t)
    (hb : attributeBase o name X.env (eval o X.env) = eval o X.env := by rfl)
    (hf : ((backTo cpos (starEach (e :: es) X.env)).all (fun x => !x.1) && (backToKw cpos (keywordEach [] X.env)).all (fun x => x.1.isSome) && decide ((e :: es).length + ([] : List Keyword).length + (if ([] : List Keyword).isEmpty then 0 else 1) < 30)) = true := by rfl)
    (hl : (apos.endLine == cpos.line) = true := by rfl) (hs : starEach (e :: es) X.env = (false, eval e X.env) :: starEach es X.env := by rfl) (hp : (backTo cpos (starEach es X.env)).any (·.1) = false := by rfl) :
    PE X (.Call (.Attribute o name apos) (e :: es) [] cpos) (tTM X.K r to t) := by
  refine ⟨fun pins s σ H Q I h => wpAny_Call_method_late hb hf hl rfl (thn (ho.run pins s σ H _ I h) fun v s1 w => ?_)⟩
  obtain ⟨x, H1, I1, r1, ⟨a, xs, rfl, hT⟩, q1⟩ := w
  cases r1
  obtain ⟨k1, k2⟩ := hT.plain I1
  refine ⟨"tuple", id, PySem.F.plainAttrs_tuple, slot, hty, k1, k2, ?_⟩
  have A1 := ha.run cpos pins s1 σ H1 _ I1 q1
  rw [hs] at A1 ⊢
  refine Calls.callWith_builtin (by show (false || (backTo cpos (starEach es X.env)).any (·.1)) = false; rw [hp]; rfl) (Calls.evalArgs_plain ?_)
  exact thn A1 fun us s2 w => by
    obtain ⟨vs, H2, I2, r2, q2⟩ := w
    exact hm pins s2 σ H2 (.ref a) vs (.ref a) us Q I2 rfl r2 q2
/-- t * k, k above 1 -/
def rRepP (K : PySem.W.Frag) : R2 := fun x y H Q => ∃ l k xs, x = .ref l ∧ y = .int k ∧ SqT K H l xs ∧ xs ≠ [] ∧ 2 ≤ k ∧ k ≤ 1000 ∧ xs.length ≤ 1000 ∧ Mk Q (List.replicate k.toNat xs).flatten H
theorem op_repP : OpR X (binaryOp .Mult) (rRepP X.K) := by
  intro pins s σ H x y v u Q I rx ry w
  obtain ⟨l, k, xs, rfl, rfl, hT, hne, h1, h2, hz, q⟩ := w
  cases rx
  obtain ⟨tk, rfl⟩ := ry
  obtain ⟨its, rv, ⟨⟨c0, d0, dt, sl⟩, ho, hc, n0, hd⟩, _⟩ := I.tuple hT
  simp only at hc hd
  subst hc hd
  have e1 : its.toArray.size = xs.length := by rw [List.size_toArray, rv.length]
  have e2 : its.toArray.isEmpty = false := by
    cases its with
    | nil => exact absurd (by cases rv; rfl) hne
    | cons a b => rfl
  have b1 : ((xs.length : Nat) : Int) * k ≤ 1000 * k := Int.mul_le_mul_of_nonneg_right (by omega) (by omega)
  have b2 : k.toNat * xs.length ≤ 1000 * 1000 := Nat.mul_le_mul (by omega) hz
  have ln : (List.replicate k.toNat its).flatten.length = k.toNat * xs.length := by rw [PyProof.Rows.lm_len_rep_flat, ← rv.length]
  have g1 : (decide (k < -(2 ^ 63)) || decide (k ≥ 2 ^ 63)) = false := by
    rw [Bool.or_eq_false_iff]
    exact ⟨decide_eq_false (by omega), decide_eq_false (by omega)⟩
  have g2 : (its.toArray.isEmpty || k == 1) = false := by
    rw [e2]
    exact beq_eq_false_iff_ne.mpr (by omega)
  have g3 : (decide (k ≤ 0) || its.toArray.isEmpty) = false := by
    rw [e2, decide_eq_false (by omega : ¬ k ≤ 0)]
    rfl
  have g4 : Builtin.Tuple.tupleTooMany (((its.toArray.size : Nat) : Int) * k) = false := by
    rw [e1]
    unfold Builtin.Tuple.tupleTooMany
    exact decide_eq_false (by rw [sizeLine_eq]; omega)
  have m1 := int_rmul_tuple k tk l its.toArray n0 d0 sl
  have m2 := tuple_mulW l its.toArray n0 d0 sl k tk g1 g2 g3 (by rw [e1]; omega) g4 (by rw [size_rep, List.size_toArray, ln, sizeLine_eq]; omega)
  refine wpAny_binaryOp_repeat_ref (T := "tuple") (U := "int") (by decide) ⟨_, ho, rfl⟩ (fun z => typeIs_int z k tk) noFill_tuple_mul F.fills_int_mul F.slot_int_rmul repeat_tuple F.slot_int_index.lookup ?_
  refine call_meets F.slot_int_rmul (typeIs_int s k tk) F.entry_int_rmul (F.args_int_rmul_2 _ _) m1 ⟨ho, rfl, ⟨_, ho, rfl⟩, ?_⟩
  refine call_meets F.slot_tuple_mul ⟨_, ho, rfl⟩ F.entry_tuple_mul (F.args_tuple_mul_2 _ _) m2 ⟨ho, ?_⟩
  rw [size_rep]
  exact made (t' := s.toks) I (fun b ob q => Heap.get?_push_of_some _ q) (Nat.le_refl _) (rv.rep k.toNat) (by rw [PyProof.Rows.lm_len_rep_flat, sizeLine_eq]; omega) (Heap.get?_push_size _ rfl) q
/-- x in t, x not in t: t a tuple of data of any depth -/
def rInT (K : PySem.W.Frag) (neg : Bool) : R2 := fun x y H Q => ∃ d ds, Dp K H x d ∧ Dp K H y (.tuple ds) ∧ SeqAt.shaped d = true ∧ SeqAt.shaped (.tuple ds) = true ∧ Q (.bl (if neg = true then !(ds.any fun z => PyData.eqv z d) else ds.any fun z => PyData.eqv z d)) H
theorem op_inT (hu : X.A.units + 65 < cLine) : OpR X (compareOp .In) (rInT X.K false) := by
  intro pins s σ H x y v u Q I rx ry w
  obtain ⟨d, ds, hd, he, sd, se, q⟩ := w
  obtain ⟨_, r1⟩ := Dp.reads I d x v hd rx
  obtain ⟨_, r2⟩ := Dp.reads I (.tuple ds) y u he ry
  have c := SeqAt.canLay_of_shaped se
  exact SeqAt.in_tuple_reads r2 r1 c (SeqAt.canLay_of_shaped sd) (room_in_shaped sd hu) ⟨.bl _, H, I, rfl, q⟩
theorem op_ninT (hu : X.A.units + 65 < cLine) : OpR X (compareOp .NotIn) (rInT X.K true) := by
  intro pins s σ H x y v u Q I rx ry w
  obtain ⟨d, ds, hd, he, sd, se, q⟩ := w
  obtain ⟨_, r1⟩ := Dp.reads I d x v hd rx
  obtain ⟨_, r2⟩ := Dp.reads I (.tuple ds) y u he ry
  have c := SeqAt.canLay_of_shaped se
  exact SeqAt.notIn_tuple_reads r2 r1 c (SeqAt.canLay_of_shaped sd) (room_in_shaped sd hu) ⟨.bl _, H, I, rfl, q⟩
/-- t.index(x): the first place of an equal one -/
def rIndexT (K : PySem.W.Frag) : V → List V → Hp → VK → Prop := fun x xs H Q => ∃ (a : Addr) (y : V) (d : PyData) (ds : List PyData) (j : Nat) (z : PyData), x = V.ref a ∧ xs = [y] ∧ Dp K H (V.ref a) (.tuple ds) ∧ Dp K H y d ∧
  SeqAt.shaped (.tuple ds) = true ∧ SeqAt.shaped d = true ∧ ds[j]? = some z ∧ PyData.eqv z d = true ∧ (∀ (m : Nat) (z' : PyData), m < j → ds[m]? = some z' → PyData.eqv z' d = false) ∧ Q (.int (j : Nat)) H
theorem mt_indexT (hu : X.A.units + 65 < cLine) : MtR X "tuple.index" (rIndexT X.K) := by
  intro pins s σ H x xs v us Q I rx rxs w
  obtain ⟨a, y, d, ds, j, z, rfl, rfl, hl, hy, sl, sd, hz, hzj, hno, q⟩ := w
  cases rx
  obtain ⟨uy, rfl, ry⟩ := vals1 rxs
  obtain ⟨_, r1⟩ := Dp.reads I d y uy hy ry
  have lay : PyData.canLayAll0 ds = true := SeqAt.canLay_of_shaped sl
  have room : X.A.units + 1 + min (PyData.depthAll ds) d.depth < cLine := room_in_shaped sd hu
  cases hl with
  | tup hs ha =>
    obtain ⟨its, rv, ⟨⟨c0, d0, dt, sls⟩, ho, hc, n, hdt⟩, hlen⟩ := I.tuple hs
    simp only at hc hdt
    subst hc hdt
    obtain ⟨as, h4⟩ := Dp.readsAll I ds _ its ha rv
    have hn : its.length = ds.length := SeqAt.ReadsAll.length ds its as h4
    have hmap : its.map (SeqAt.readOf s.heap) = ds := SeqAt.readsAll_map ds its as lay h4
    have jd := (List.getElem?_eq_some_iff.mp hz).1
    have hj : j < its.toArray.size := by rw [List.size_toArray, hn]; exact jd
    have there : ∀ (m : Nat) (hm : m < its.toArray.size) (z' : PyData), ds[m]? = some z' → SeqAt.readOf s.heap its.toArray[m] = z' := by
      intro m hm z' e
      have hm2 : m < its.length := by simpa using hm
      rw [← hmap, List.getElem?_map, List.getElem?_eq_getElem hm2] at e
      have e' := Option.some.inj e
      simpa using e'
    have eqs := SeqAt.items_eqAt (vs := its.toArray) (show ReadsAll s.heap its.toArray.toList ds as from h4) r1 lay (SeqAt.canLay_of_shaped sd) room
    refine call_meets F.slot_tuple_index ⟨_, ho, rfl⟩ F.entry_tuple_index (F.args_tuple_index_2 _ _) (TI.tuple_indexAt a its.toArray n d0 sls uy (fun u => PyData.eqv (SeqAt.readOf s.heap u) d) j hj ?_ ?_) ⟨ho, eqs, ⟨.int (j : Nat), H, I.tok _, ⟨_, rfl⟩, q⟩⟩
    · show PyData.eqv (SeqAt.readOf s.heap its.toArray[j]) d = true
      rw [there j hj z hz]
      exact hzj
    · intro m hm hmj
      have hmd : m < ds.length := by omega
      have e : ds[m]? = some ds[m] := List.getElem?_eq_getElem hmd
      show PyData.eqv (SeqAt.readOf s.heap its.toArray[m]) d = false
      rw [there m hm _ e]
      exact hno m _ hmj e
end
end ZT
set_option Elab.async false
set_option linter.all false
set_option maxRecDepth 100000
set_option maxHeartbeats 2000000
/-! DL0: data seen through a view G of the tracked heap; a mirror in a small result type; judgements that a piece of syntax does what its mirror says. -/
namespace DL
open PySem L2
open ZT (PT)

abbrev PD := PySem.PyData
abbrev Fg := PySem.W.Frag
abbrev Sub (G H : Hp) : Prop := ∀ a o, G a = some o → H a = some o

/-! ### data -/
def keyD : Key → PD
  | .inl i => .int i
  | .inr x => .str x
mutual
inductive DR (K : Fg) (G : Hp) : V → PD → Prop
  | non : DR K G .non .none
  | bl (b : Bool) : DR K G (.bl b) (.bool b)
  | int (i : Int) : DR K G (.int i) (.int i)
  | str (x : Str) : DR K G (.str x) (.str x)
  | lst {a : Addr} {xs : List V} {ds : List PD} : G a = some (.lst xs) → DRs K G xs ds → DR K G (.ref a) (.list ds)
  | tup {a : Addr} {xs : List V} {ds : List PD} : PT K G a xs → DRs K G xs ds → DR K G (.ref a) (.tuple ds)
  | dct {a : Addr} {kvs : List (Key × V)} {ds : List (PD × PD)} : G a = some (.dK kvs) → DKs K G kvs ds → DR K G (.ref a) (.dict ds)
inductive DRs (K : Fg) (G : Hp) : List V → List PD → Prop
  | nil : DRs K G [] []
  | cons {v : V} {vs : List V} {d : PD} {ds : List PD} : DR K G v d → DRs K G vs ds → DRs K G (v :: vs) (d :: ds)
inductive DKs (K : Fg) (G : Hp) : List (Key × V) → List (PD × PD) → Prop
  | nil : DKs K G [] []
  | cons {k : Key} {v : V} {kvs : List (Key × V)} {d : PD} {ds : List (PD × PD)} : DR K G v d → DKs K G kvs ds → DKs K G ((k, v) :: kvs) ((keyD k, d) :: ds)
end

theorem sbPT {K : Fg} {G G' : Hp} {a : Addr} {xs : List V} (e : Sub G G') (h : PT K G a xs) : PT K G' a xs := by
  rcases h with ⟨o, h, hd⟩ | h
  · exact .inl ⟨o, e _ _ h, hd⟩
  · exact .inr h
theorem subT {K : Fg} {G G' : Hp} {a : Addr} {xs : List V} (e : Sub G G') (h : PT K G a xs) : SqT K G' a xs := (sbPT e h).sq
mutual
theorem DR.mono {K : Fg} {G G' : Hp} (e : Sub G G') : ∀ {v : V} {d : PD}, DR K G v d → DR K G' v d
  | _, _, .non => .non
  | _, _, .bl b => .bl b
  | _, _, .int i => .int i
  | _, _, .str x => .str x
  | _, _, .lst h r => .lst (e _ _ h) (DRs.mono e r)
  | _, _, .tup h r => .tup (sbPT e h) (DRs.mono e r)
  | _, _, .dct h r => .dct (e _ _ h) (DKs.mono e r)
theorem DRs.mono {K : Fg} {G G' : Hp} (e : Sub G G') : ∀ {vs : List V} {ds : List PD}, DRs K G vs ds → DRs K G' vs ds
  | _, _, .nil => .nil
  | _, _, .cons h r => .cons (DR.mono e h) (DRs.mono e r)
theorem DKs.mono {K : Fg} {G G' : Hp} (e : Sub G G') : ∀ {kvs : List (Key × V)} {ds : List (PD × PD)}, DKs K G kvs ds → DKs K G' kvs ds
  | _, _, .nil => .nil
  | _, _, .cons h r => .cons (DR.mono e h) (DKs.mono e r)
end
mutual
theorem DR.dp {K : Fg} {G : Hp} : ∀ {v : V} {d : PD}, d.canLay0 = true → DR K G v d → Dp K G v d
  | _, _, _, .non => .non
  | _, _, _, .bl b => .bl b
  | _, _, _, .int i => .int i
  | _, _, _, .str x => .str x
  | _, _, c, .lst h r => .lst (SqL.of h) (DRs.dp c r)
  | _, _, c, .tup h r => .tup h.sq (DRs.dp c r)
  | _, _, c, .dct h r => by cases c
theorem DRs.dp {K : Fg} {G : Hp} : ∀ {vs : List V} {ds : List PD}, PyData.canLayAll0 ds = true → DRs K G vs ds → DpAll K G vs ds
  | _, _, _, .nil => .nil
  | _, _, c, .cons h r => .cons (DR.dp (Bool.and_eq_true_iff.mp c).1 h) (DRs.dp (Bool.and_eq_true_iff.mp c).2 r)
end
/-- an item as it is walked: data (true), or a pair that is let go at once (false) -/
def DRb (K : Fg) (G : Hp) : Bool → V → PD → Prop
  | true, v, d => DR K G v d
  | false, v, d => DR K G v d ∨ ∃ (a : Addr) (xs : List V) (ds : List PD), v = .ref a ∧ d = .tuple ds ∧ SqT K G a xs ∧ DRs K G xs ds
theorem DRb.of {K : Fg} {G : Hp} : ∀ {st : Bool} {v : V} {d : PD}, DR K G v d → DRb K G st v d
  | true, _, _, h => h
  | false, _, _, h => .inl h
theorem DRb.tup {K : Fg} {G : Hp} : ∀ {st : Bool} {v : V} {ds : List PD}, DRb K G st v (.tuple ds) → ∃ (a : Addr) (xs : List V), v = .ref a ∧ SqT K G a xs ∧ DRs K G xs ds
  | true, _, _, h => by
    cases h with
    | tup a b => exact ⟨_, _, rfl, a.sq, b⟩
  | false, _, _, .inl h => by
    cases h with
    | tup a b => exact ⟨_, _, rfl, a.sq, b⟩
  | false, _, _, .inr ⟨a, xs, ds, e1, e2, h1, h2⟩ => by
    cases e2
    exact ⟨a, xs, e1, h1, h2⟩
theorem DRs.length {K : Fg} {G : Hp} : ∀ {vs : List V} {ds : List PD}, DRs K G vs ds → vs.length = ds.length
  | _, _, .nil => rfl
  | _, _, .cons _ r => by rw [List.length_cons, List.length_cons, DRs.length r]
theorem DRs.get {K : Fg} {G : Hp} : ∀ {vs : List V} {ds : List PD} {i : Nat} {d : PD}, DRs K G vs ds → ds[i]? = some d → ∃ v, vs[i]? = some v ∧ DR K G v d
  | _, _, _, _, .nil, h => by simp at h
  | _, _, 0, _, .cons (v := v) h r, e => by
    rw [List.getElem?_cons_zero] at e
    cases e
    exact ⟨v, by rw [List.getElem?_cons_zero], h⟩
  | _, _, i + 1, _, .cons h r, e => by
    rw [List.getElem?_cons_succ] at e
    obtain ⟨v, h1, h2⟩ := DRs.get r e
    exact ⟨v, by rw [List.getElem?_cons_succ]; exact h1, h2⟩
theorem DRs.getV {K : Fg} {G : Hp} : ∀ {vs : List V} {ds : List PD} {i : Nat} {v : V}, DRs K G vs ds → vs[i]? = some v → ∃ d, ds[i]? = some d ∧ DR K G v d
  | _, _, _, _, .nil, h => by simp at h
  | _, _, 0, _, .cons (d := d) h r, e => by
    rw [List.getElem?_cons_zero] at e
    cases e
    exact ⟨d, by rw [List.getElem?_cons_zero], h⟩
  | _, _, i + 1, _, .cons h r, e => by
    rw [List.getElem?_cons_succ] at e
    obtain ⟨d, h1, h2⟩ := DRs.getV r e
    exact ⟨d, by rw [List.getElem?_cons_succ]; exact h1, h2⟩
theorem DRs.append {K : Fg} {G : Hp} : ∀ {vs us : List V} {ds es : List PD}, DRs K G vs ds → DRs K G us es → DRs K G (vs ++ us) (ds ++ es)
  | _, _, _, _, .nil, r => r
  | _, _, _, _, .cons h t, r => .cons h (DRs.append t r)
theorem DRs.drop {K : Fg} {G : Hp} : ∀ {vs : List V} {ds : List PD} (n : Nat), DRs K G vs ds → DRs K G (vs.drop n) (ds.drop n)
  | _, _, 0, r => r
  | _, _, _ + 1, .nil => .nil
  | _, _, n + 1, .cons _ r => DRs.drop n r
theorem DRs.take {K : Fg} {G : Hp} : ∀ {vs : List V} {ds : List PD} (n : Nat), DRs K G vs ds → DRs K G (vs.take n) (ds.take n)
  | _, _, 0, _ => .nil
  | _, _, _ + 1, .nil => .nil
  | _, _, n + 1, .cons h r => .cons h (DRs.take n r)
theorem DRs.dropLast {K : Fg} {G : Hp} {vs : List V} {ds : List PD} (r : DRs K G vs ds) : DRs K G vs.dropLast ds.dropLast := by
  rw [List.dropLast_eq_take, List.dropLast_eq_take, r.length]
  exact r.take _
theorem DRs.reverse {K : Fg} {G : Hp} : ∀ {vs : List V} {ds : List PD}, DRs K G vs ds → DRs K G vs.reverse ds.reverse
  | _, _, .nil => .nil
  | _, _, .cons h r => by
    rw [List.reverse_cons, List.reverse_cons]
    exact (DRs.reverse r).append (.cons h .nil)
theorem DRs.set {K : Fg} {G : Hp} {v : V} {d : PD} (q : DR K G v d) : ∀ {vs : List V} {ds : List PD} (i : Nat), DRs K G vs ds → DRs K G (vs.set i v) (ds.set i d)
  | _, _, _, .nil => .nil
  | _, _, 0, .cons _ r => .cons q r
  | _, _, i + 1, .cons h r => .cons h (DRs.set q i r)
theorem DRs.ints {K : Fg} {G : Hp} : ∀ (ns : List Int), DRs K G (ns.map V.int) (ns.map PyData.int)
  | [] => .nil
  | n :: r => .cons (.int n) (DRs.ints r)
theorem DRs.of_ints {K : Fg} {G : Hp} : ∀ {vs : List V} {ns : List Int}, DRs K G vs (ns.map PyData.int) → vs = ns.map V.int
  | _, [], r => by cases r; rfl
  | _, n :: t, r => by
    cases r with
    | cons h q =>
      cases h
      rw [DRs.of_ints q]
      rfl
theorem DRs.of_strs {K : Fg} {G : Hp} : ∀ {vs : List V} {ns : List Str}, DRs K G vs (ns.map PyData.str) → vs = ns.map V.str
  | _, [], r => by cases r; rfl
  | _, n :: t, r => by
    cases r with
    | cons h q =>
      cases h
      rw [DRs.of_strs q]
      rfl
theorem DRs.of_bools {K : Fg} {G : Hp} : ∀ {vs : List V} {ns : List Bool}, DRs K G vs (ns.map PyData.bool) → vs = ns.map V.bl
  | _, [], r => by cases r; rfl
  | _, n :: t, r => by
    cases r with
    | cons h q =>
      cases h
      rw [DRs.of_bools q]
      rfl

/-! ### the bag of draws -/
structure Bag where
  s0 : Nat
  s1 : Nat
  s2 : Nat
  cells : List Nat
/-- where the bag stands, and its cells; the tables of code objects -/
structure Wd where
  bg : Option (Addr × Addr)
  tb : List (Addr × Str)
def BagAt (w : Wd) (H : Hp) (B : Bag) : Prop := ∀ b l, w.bg = some (b, l) → H b = some (.lst [.int (B.s0 : Int), .int (B.s1 : Int), .int (B.s2 : Int), .ref l]) ∧ l ≠ b ∧ H l = some (.lst (B.cells.map fun n : Nat => V.int (n : Int)))
/-- not the bag | nor its cells -/
def Nb1 (w : Wd) (a : Addr) : Prop := (∀ b l, w.bg = some (b, l) → b ≠ a) ∧ ∀ t ∈ w.tb, t.1 ≠ a
def Nb (w : Wd) (a : Addr) : Prop := (∀ b l, w.bg = some (b, l) → b ≠ a ∧ l ≠ a) ∧ ∀ t ∈ w.tb, t.1 ≠ a
theorem Nb.one {w : Wd} {a : Addr} (h : Nb w a) : Nb1 w a := ⟨fun b l e => (h.1 b l e).1, h.2⟩
theorem tabs_upd {T : List (Addr × Str)} {H : Hp} {p : Addr} {o : HO} (h : LamX.Tabs T H) (n : ∀ t ∈ T, t.1 ≠ p) (x : ∀ q, H p ≠ some (LamX.CodeO p q)) : LamX.Tabs T (upd H p o) := fun t ht => by
  obtain ⟨ps, h1, h2, h3⟩ := h t ht
  refine ⟨ps, by rw [upd_ne (n t ht)]; exact h1, h2, fun pos cv hc => ?_⟩
  obtain ⟨c, e1, e2⟩ := h3 pos cv hc
  refine ⟨c, e1, ?_⟩
  by_cases z : c = p
  · subst z; exact absurd e2 (x _)
  · rw [upd_ne z]; exact e2
theorem noCo {c : Addr} {q : Str} {o : HO} (h : ∀ phi, o ≠ .ext phi) : (some o : Option HO) ≠ some (LamX.CodeO c q) := fun z => h _ (Option.some.inj z)

/-! ### steps of the heap -/
structure Ok (w : Wd) (G H : Hp) (B : Bag) : Prop where
  sub : Sub G H
  bag : BagAt w H B
  gb : ∀ b l, w.bg = some (b, l) → G b = none
  tabs : LamX.Tabs w.tb H
  gt : ∀ a ps, G a ≠ some (.tbl ps)
  gl : ∀ b l, w.bg = some (b, l) → G l = some (.lst (B.cells.map fun n : Nat => V.int (n : Int)))
/-- nothing, or a table -/
def NN (x : Option HO) : Prop := x = none ∨ ∃ ps, x = some (.tbl ps)
theorem NN.ne {H : Hp} {a p : Addr} {o : HO} (e : H a = some o) (nt : ∀ ps, o ≠ .tbl ps) (h : NN (H p)) : a ≠ p := fun z => by
  rw [← z, e] at h
  rcases h with h | ⟨ps, h⟩
  · cases h
  · exact nt ps (Option.some.inj h)
structure Step (w : Wd) (G H G' H' : Hp) : Prop where
  exG : Sub G G'
  fr : ∀ a o, G' a = some o → G a = some o ∨ NN (H a)
  keep : ∀ a o, Nb1 w a → (∀ ps, o ≠ .tbl ps) → H a = some o → H' a = some o
  there : ∀ a o, (∀ ps, o ≠ .tbl ps) → H a = some o → ∃ o', (∀ ps, o' ≠ .tbl ps) ∧ H' a = some o'
section
variable {w : Wd} {G H G' H' G2 H2 : Hp} {B B' : Bag} {p : Addr} {o : HO}
theorem Step.refl : Step w G H G H := ⟨fun _ _ h => h, fun _ _ h => .inl h, fun _ _ _ _ h => h, fun _ o n h => ⟨o, n, h⟩⟩
theorem Step.back0 (s : Step w G H G' H') (h : NN (H' p)) : NN (H p) := by
  cases e : H p with
  | none => exact .inl rfl
  | some u =>
    by_cases nt : ∃ ps, u = .tbl ps
    · obtain ⟨ps, rfl⟩ := nt
      exact .inr ⟨ps, rfl⟩
    · obtain ⟨o', n, e'⟩ := s.there p u (fun ps z => nt ⟨ps, z⟩) e
      rw [e'] at h
      rcases h with h | ⟨ps, h⟩
      · cases h
      · exact absurd (Option.some.inj h) (n ps)
theorem Step.trans (a : Step w G H G' H') (b : Step w G' H' G2 H2) : Step w G H G2 H2 := by
  refine ⟨fun c o h => b.exG c o (a.exG c o h), fun c o h => ?_, fun c o hw n h => b.keep c o hw n (a.keep c o hw n h), fun c o n h => ?_⟩
  · rcases b.fr c o h with q | q
    · exact a.fr c o q
    · exact .inr (a.back0 q)
  · obtain ⟨o1, n1, e1⟩ := a.there c o n h
    exact b.there c o1 n1 e1
theorem new_sub (hs : Sub G H) (hp : H p = none) : Sub G (upd G p o) := fun a u h => by
  have gp : G p = none := by
    cases e : G p with
    | none => rfl
    | some u => rw [hs p u e] at hp; cases hp
  rw [upd_ne (ne_of_none h gp)]; exact h
/-- a new object, kept in the view -/
theorem Step.new (hs : Sub G H) (hp : H p = none) : Step w G H (upd G p o) (upd H p o) := by
  have gp : G p = none := by
    cases e : G p with
    | none => rfl
    | some u => rw [hs p u e] at hp; cases hp
  refine ⟨fun a u h => ?_, fun a u h => ?_, fun a u _ _ h => ?_, fun a u n h => ?_⟩
  · rw [upd_ne (ne_of_none h gp)]; exact h
  · by_cases e : a = p
    · subst e; exact .inr (.inl hp)
    · rw [upd_ne e] at h; exact .inl h
  · rw [upd_ne (ne_of_none h hp)]; exact h
  · exact ⟨u, n, by rw [upd_ne (ne_of_none h hp)]; exact h⟩
/-- .. not kept in it -/
theorem Step.newH (hp : H p = none) : Step w G H G (upd H p o) :=
  ⟨fun _ _ h => h, fun _ _ h => .inl h, fun a u _ _ h => by rw [upd_ne (ne_of_none h hp)]; exact h, fun a u n h => ⟨u, n, by rw [upd_ne (ne_of_none h hp)]; exact h⟩⟩
theorem BagAt.keep (h : BagAt w H B) (k : ∀ a o, H a = some o → H' a = some o) : BagAt w H' B := fun b l e => by
  obtain ⟨h1, h2, h3⟩ := h b l e
  exact ⟨k _ _ h1, h2, k _ _ h3⟩
theorem Ok.nb (h : Ok w G H B) (hp : H p = none) : Nb w p := ⟨fun b l e => by
  obtain ⟨h1, _, h3⟩ := h.bag b l e
  exact ⟨ne_of_none h1 hp, ne_of_none h3 hp⟩, fun t ht => by
  obtain ⟨ps, h1, _⟩ := h.tabs t ht
  exact ne_of_none h1 hp⟩
theorem tabs_new {T : List (Addr × Str)} {H : Hp} {p : Addr} {o : HO} (h : LamX.Tabs T H) (hp : H p = none) : LamX.Tabs T (upd H p o) := h.ext fun a u q => by rw [upd_ne (ne_of_none q hp)]; exact q
/-- an object that is neither the bag's nor in the view changes -/
theorem Ok.mut (h : Ok w G H B) (hg : G p = none) (hb : Nb w p) (hx : ∀ q, H p ≠ some (LamX.CodeO p q)) : Ok w G (upd H p o) B := by
  refine ⟨fun a u q => ?_, fun b l e => ?_, h.gb, tabs_upd h.tabs hb.2 hx, h.gt, h.gl⟩
  · have e : a ≠ p := fun z => by rw [z, hg] at q; cases q
    rw [upd_ne e]; exact h.sub a u q
  · obtain ⟨h1, h2, h3⟩ := h.bag b l e
    obtain ⟨n1, n2⟩ := hb.1 b l e
    exact ⟨by rw [upd_ne n1]; exact h1, h2, by rw [upd_ne n2]; exact h3⟩
theorem gt_upd {G : Hp} {p : Addr} {o : HO} (h : ∀ a ps, G a ≠ some (.tbl ps)) (nt : ∀ ps, o ≠ .tbl ps) : ∀ a ps, upd G p o a ≠ some (.tbl ps) := fun a ps z => by
  by_cases e : a = p
  · subst e; rw [upd_same] at z; exact nt ps (Option.some.inj z)
  · rw [upd_ne e] at z; exact h a ps z
theorem Ok.new (h : Ok w G H B) (hp : H p = none) (nt : ∀ ps, o ≠ .tbl ps := by intro _ z; cases z) : Ok w (upd G p o) (upd H p o) B := by
  refine ⟨fun a u q => ?_, h.bag.keep fun a u q => by rw [upd_ne (ne_of_none q hp)]; exact q, fun b l e => ?_, tabs_new h.tabs hp, gt_upd h.gt nt, fun b l e => ?_⟩
  · by_cases e : a = p
    · subst e; rw [upd_same] at q ⊢; exact q
    · rw [upd_ne e] at q ⊢; exact h.sub a u q
  · obtain ⟨h1, _⟩ := h.bag b l e
    rw [upd_ne (ne_of_none h1 hp)]
    exact h.gb b l e
  · obtain ⟨_, _, h3⟩ := h.bag b l e
    rw [upd_ne (ne_of_none h3 hp)]
    exact h.gl b l e
theorem Ok.newH (h : Ok w G H B) (hp : H p = none) : Ok w G (upd H p o) B :=
  ⟨fun a u q => by rw [upd_ne (ne_of_none (h.sub a u q) hp)]; exact h.sub a u q, h.bag.keep fun a u q => by rw [upd_ne (ne_of_none q hp)]; exact q, h.gb, tabs_new h.tabs hp, h.gt, h.gl⟩
theorem Ok.free (h : Ok w G H B) (hp : H p = none) : G p = none := by
  cases e : G p with
  | none => rfl
  | some u => rw [h.sub p u e] at hp; cases hp
end

/-! ### results -/
inductive Res (α : Type) where
  | ok (a : α) (B : Bag)
  | exc (c : Str) (as : List (Str × PD)) (B : Bag)
  | bad
def Res.bind {α β : Type} (r : Res α) (f : α → Bag → Res β) : Res β := match r with
  | .ok a B => f a B
  | .exc c as B => .exc c as B
  | .bad => .bad
/-- an attribute list of an exception -/
inductive Fs (K : Fg) (G : Hp) : List (Str × V) → List (Str × PD) → Prop
  | nil : Fs K G [] []
  | cons {f : Str} {v : V} {d : PD} {fs : List (Str × V)} {as : List (Str × PD)} : DR K G v d → Fs K G fs as → Fs K G ((f, v) :: fs) ((f, d) :: as)
def ExcP (K : Fg) (mg : Str → Option Value) (w : Wd) (G H : Hp) (c : Str) (as : List (Str × PD)) (B' : Bag) (E : XK) : Prop :=
  ∀ (cls : Value) (dd : Addr) (fs : List (Str × V)) (G' H' : Hp), mg c = some cls → Step w G H G' H' → Ok w G' H' B' → H' dd = some (.xd fs) → Fs K G' fs as → E cls (some dd) H'
/-- what is wanted of a result: R of what comes of it, E of an exception -/
def PostR {α β : Type} (K : Fg) (mg : Str → Option Value) (w : Wd) (G H : Hp) (Rl : Hp → β → α → Prop) (r : Res α) (Q : β → Hp → Prop) (E : XK) : Prop := match r with
  | .ok a B' => ∀ (v : β) (G' H' : Hp), Step w G H G' H' → Ok w G' H' B' → Rl G' v a → Q v H'
  | .exc c as B' => ExcP K mg w G H c as B' E
  | .bad => False
abbrev PostE (K : Fg) (mg : Str → Option Value) (w : Wd) (G H : Hp) (r : Res PD) (Q : VK) (E : XK) : Prop := PostR K mg w G H (fun G' v d => DR K G' v d) r Q E
abbrev PostT (K : Fg) (mg : Str → Option Value) (w : Wd) (G H : Hp) (r : Res Bool) (Q : Bool → Hp → Prop) (E : XK) : Prop := PostR K mg w G H (fun _ c b => c = b) r Q E
/-- the chain of two -/
theorem PostR.step {α β : Type} {K : Fg} {mg : Str → Option Value} {w : Wd} {G H G' H' : Hp} {Rl : Hp → β → α → Prop} {r : Res α} {Q : β → Hp → Prop} {E : XK} (s : Step w G H G' H') (h : PostR K mg w G H Rl r Q E) : PostR K mg w G' H' Rl r Q E := by
  cases r with
  | ok a B => exact fun v G2 H2 s2 o d => h v G2 H2 (s.trans s2) o d
  | exc c as B => exact fun cls dd fs G2 H2 m s2 o d f => h cls dd fs G2 H2 m (s.trans s2) o d f
  | bad => exact h
theorem PostR.bind {α β γ δ : Type} {K : Fg} {mg : Str → Option Value} {w : Wd} {G H : Hp} {Ra : Hp → β → α → Prop} {Rb : Hp → δ → γ → Prop} {r : Res α} {f : α → Bag → Res γ} {Q : δ → Hp → Prop} {Q1 : β → Hp → Prop} {E : XK}
    (h : PostR K mg w G H Rb (r.bind f) Q E) (k : ∀ a B' v G' H', Step w G H G' H' → Ok w G' H' B' → Ra G' v a → PostR K mg w G' H' Rb (f a B') Q E → Q1 v H') : PostR K mg w G H Ra r Q1 E := by
  cases r with
  | ok a B => exact fun v G2 H2 s2 o d => k a B v G2 H2 s2 o d (PostR.step s2 h)
  | exc c as B => exact h
  | bad => exact h

/-! ### what the slots hold -/
inductive SV where
  | d (x : PD)
  | own (xs : List PD)
  | bag
  | ownD (ds : List (PD × PD))
abbrev EnvM := List (Option SV)
def SR (K : Fg) (w : Wd) (H0 G H : Hp) (v : V) : SV → Prop
  | .d x => DR K G v x
  | .own xs => ∃ (p : Addr) (vs : List V), v = .ref p ∧ G p = none ∧ NN (H0 p) ∧ Nb w p ∧ H p = some (.lst vs) ∧ DRs K G vs xs
  | .bag => ∃ b l, w.bg = some (b, l) ∧ v = .ref b
  | .ownD ds => ∃ (p : Addr) (kvs : List (Key × V)), v = .ref p ∧ G p = none ∧ NN (H0 p) ∧ Nb w p ∧ H p = some (.dK kvs) ∧ DKs K G kvs ds
def SV.isOwn : SV → Bool
  | .own _ => true
  | .ownD _ => true
  | _ => false
/-- the defs that make lambdas, in any of the laws; their tables of code objects -/
def LAMS : List Str := ["law", "beginnings", "_law_begins", "as_terms", "_law_terms", "_law_word_asked", "_law_is_summer_right", "infixes", "_law_are_ratios_right", "_law_are_slips_right", "_law_is_machine_right", "_law_is_long_right", "_law_are_classes_right", "_law_is_text_right", "_law_are_judged"]
def lamQ (x : Str) : Str := x ++ ".<locals>." ++ "<lambda>"
def TK (K : Fg) : List (Addr × Str) := LAMS.filterMap fun x => (PySem.W.tabIn K x).map fun cp => (cp.2, lamQ x)
structure Rel (K : Fg) (w : Wd) (G0 H0 : Hp) (σ : L2.St) (env : EnvM) (G H : Hp) (B : Bag) : Prop where
  ok : Ok w G H B
  ent : Step w G0 H0 G H
  len : env.length = σ.length
  slot : ∀ (i : Nat) (sv : SV), env[i]? = some (some sv) → ∃ v, σ[i]? = some (some v) ∧ SR K w H0 G H v sv
  dist : ∀ (i j : Nat) (si sj : SV) (p : Addr), i ≠ j → env[i]? = some (some si) → si.isOwn = true → env[j]? = some (some sj) → sj.isOwn = true → σ[i]? = some (some (.ref p)) → σ[j]? ≠ some (some (.ref p))
  wk : w.tb = TK K
section
variable {K : Fg} {w : Wd} {G0 H0 : Hp} {σ : L2.St} {env : EnvM} {G H G' H' : Hp} {B B' : Bag} {v : V} {sv : SV}
theorem SR.step (s : Step w G H G' H') (h : SR K w H0 G H v sv) : SR K w H0 G' H' v sv := by
  cases sv with
  | d x => exact DR.mono s.exG h
  | own xs =>
    obtain ⟨p, vs, e, g, h0, hw, hp, r⟩ := h
    refine ⟨p, vs, e, ?_, h0, hw, s.keep p _ hw.one (fun _ z => by cases z) hp, r.mono s.exG⟩
    cases q : G' p with
    | none => rfl
    | some o =>
      rcases s.fr p o q with z | z
      · rw [g] at z; cases z
      · exact absurd rfl (z.ne hp (fun _ z => by cases z))
  | bag => exact h
  | ownD ds =>
    obtain ⟨p, vs, e, g, h0, hw, hp, r⟩ := h
    refine ⟨p, vs, e, ?_, h0, hw, s.keep p _ hw.one (fun _ z => by cases z) hp, r.mono s.exG⟩
    cases q : G' p with
    | none => rfl
    | some o =>
      rcases s.fr p o q with z | z
      · rw [g] at z; cases z
      · exact absurd rfl (z.ne hp (fun _ z => by cases z))
theorem Rel.step (R : Rel K w G0 H0 σ env G H B) (s : Step w G H G' H') (o : Ok w G' H' B') : Rel K w G0 H0 σ env G' H' B' :=
  ⟨o, R.ent.trans s, R.len, fun i sv e => let ⟨v, h1, h2⟩ := R.slot i sv e; ⟨v, h1, h2.step s⟩, R.dist, R.wk⟩
end

/-! ### the judgements -/
structure ED (X : Cx) (W : WX) (e : Expr) (t : TE) (m : EnvM → Bag → Res PD) : Prop where
  pe : PE X e t
  sem : ∀ (w : Wd) (G0 H0 : Hp) (σ : L2.St) (env : EnvM) (G H : Hp) (B : Bag) (Q : VK), Rel X.K w G0 H0 σ env G H B →
    PostE X.K X.mg w G H (m env B) Q (fun c d H' => W c d σ H') → t σ H Q
structure TD (X : Cx) (W : WX) (e : Expr) (t : TT) (m : EnvM → Bag → Res Bool) : Prop where
  pe : PT X e t
  sem : ∀ (w : Wd) (G0 H0 : Hp) (σ : L2.St) (env : EnvM) (G H : Hp) (B : Bag) (Q : Bool → Hp → Prop), Rel X.K w G0 H0 σ env G H B →
    PostT X.K X.mg w G H (m env B) Q (fun c d H' => W c d σ H') → t σ H Q
structure WD (X : Cx) (W : WX) (e : Expr) (t : TT) (m : EnvM → Bag → Res Bool) : Prop where
  pe : PW X e t
  sem : ∀ (w : Wd) (G0 H0 : Hp) (σ : L2.St) (env : EnvM) (G H : Hp) (B : Bag) (Q : Bool → Hp → Prop), Rel X.K w G0 H0 σ env G H B →
    PostT X.K X.mg w G H (m env B) Q (fun c d H' => W c d σ H') → t σ H Q
/-- an argument: data, or the bag -/
def AR (K : Fg) (w : Wd) (G : Hp) (v : V) : SV → Prop
  | .d x => DR K G v x
  | .own _ => False
  | .bag => ∃ b l, w.bg = some (b, l) ∧ v = .ref b
  | .ownD _ => False
inductive ARs (K : Fg) (w : Wd) (G : Hp) : List V → List SV → Prop
  | nil : ARs K w G [] []
  | cons {v : V} {vs : List V} {s : SV} {ss : List SV} : AR K w G v s → ARs K w G vs ss → ARs K w G (v :: vs) (s :: ss)
theorem AR.mono {K : Fg} {w : Wd} {G G' : Hp} {v : V} {s : SV} (e : Sub G G') (h : AR K w G v s) : AR K w G' v s := by
  cases s with
  | d x => exact DR.mono e h
  | own xs => exact h
  | bag => exact h
  | ownD xs => exact h
theorem ARs.mono {K : Fg} {w : Wd} {G G' : Hp} (e : Sub G G') : ∀ {vs : List V} {ss : List SV}, ARs K w G vs ss → ARs K w G' vs ss
  | _, _, .nil => .nil
  | _, _, .cons h r => .cons (h.mono e) (ARs.mono e r)
/-- an argument's expression -/
structure GD (X : Cx) (W : WX) (e : Expr) (t : TE) (m : EnvM → Bag → Res SV) : Prop where
  pe : PE X e t
  sem : ∀ (w : Wd) (G0 H0 : Hp) (σ : L2.St) (env : EnvM) (G H : Hp) (B : Bag) (Q : VK), Rel X.K w G0 H0 σ env G H B →
    PostR X.K X.mg w G H (fun G' v s => AR X.K w G' v s) (m env B) Q (fun c d H' => W c d σ H') → t σ H Q
structure AD (X : Cx) (W : WX) (es : List Expr) (t : TA) (m : EnvM → Bag → Res (List SV)) : Prop where
  pe : PA X es t
  sem : ∀ (w : Wd) (G0 H0 : Hp) (σ : L2.St) (env : EnvM) (G H : Hp) (B : Bag) (Q : List V → Hp → Prop), Rel X.K w G0 H0 σ env G H B →
    PostR X.K X.mg w G H (fun G' vs ss => ARs X.K w G' vs ss) (m env B) Q (fun c d H' => W c d σ H') → t σ H Q
/-- a statement's result -/
inductive SRes where
  | nx (env : EnvM) (B : Bag)
  | bk (env : EnvM) (B : Bag)
  | ct (env : EnvM) (B : Bag)
  | ret (d : PD) (B : Bag)
  | exc (c : Str) (as : List (Str × PD)) (env : EnvM) (B : Bag)
  | bad
def PostS (K : Fg) (mg : Str → Option Value) (w : Wd) (G0 H0 G : Hp) (W : WX) (D : Ends) : SRes → Prop
  | .nx env' B' => ∀ (σ' : L2.St) (G' H' : Hp), Rel K w G0 H0 σ' env' G' H' B' → Sub G G' → D.nx σ' H'
  | .bk env' B' => ∀ (σ' : L2.St) (G' H' : Hp), Rel K w G0 H0 σ' env' G' H' B' → Sub G G' → D.bk σ' H'
  | .ct env' B' => ∀ (σ' : L2.St) (G' H' : Hp), Rel K w G0 H0 σ' env' G' H' B' → Sub G G' → D.ct σ' H'
  | .ret d B' => ∀ (v : V) (G' H' : Hp), Step w G0 H0 G' H' → Ok w G' H' B' → DR K G' v d → D.rt v H'
  | .exc c as env' B' => ∀ (σ' : L2.St) (cls : Value) (dd : Addr) (fs : List (Str × V)) (G' H' : Hp), mg c = some cls → Rel K w G0 H0 σ' env' G' H' B' → Sub G G' → H' dd = some (.xd fs) → Fs K G' fs as → W cls (some dd) σ' H'
  | .bad => False
theorem PostS.sub {K : Fg} {mg : Str → Option Value} {w : Wd} {G0 H0 G G1 : Hp} {W : WX} {D : Ends} {r : SRes} (e : Sub G G1) (h : PostS K mg w G0 H0 G W D r) : PostS K mg w G0 H0 G1 W D r := by
  cases r with
  | nx env B => exact fun σ' G' H' R q => h σ' G' H' R fun a o z => q a o (e a o z)
  | bk env B => exact fun σ' G' H' R q => h σ' G' H' R fun a o z => q a o (e a o z)
  | ct env B => exact fun σ' G' H' R q => h σ' G' H' R fun a o z => q a o (e a o z)
  | ret d B => exact h
  | exc c as env B => exact fun σ' cls dd fs G' H' m R q => h σ' cls dd fs G' H' m R fun a o z => q a o (e a o z)
  | bad => exact h
structure SD (X : Cx) (W : WX) (st : Stmt) (t : TS) (m : EnvM → Bag → SRes) : Prop where
  pe : PS X st t
  sem : ∀ (w : Wd) (G0 H0 : Hp) (σ : L2.St) (env : EnvM) (G H : Hp) (B : Bag) (D : Ends), Rel X.K w G0 H0 σ env G H B →
    PostS X.K X.mg w G0 H0 G W D (m env B) → t D σ H
structure SDs (X : Cx) (W : WX) (sts : List Stmt) (t : TS) (m : EnvM → Bag → SRes) : Prop where
  pe : PSs X sts t
  sem : ∀ (w : Wd) (G0 H0 : Hp) (σ : L2.St) (env : EnvM) (G H : Hp) (B : Bag) (D : Ends), Rel X.K w G0 H0 σ env G H B →
    PostS X.K X.mg w G0 H0 G W D (m env B) → t D σ H
end DL
set_option Elab.async false
set_option linter.all false
set_option maxRecDepth 100000
set_option maxHeartbeats 2000000
/-! DL1: expressions, tests, arguments. -/
namespace DL
open PySem L2
open ZT (PT)
section
variable {X : Cx} {W : WX}

/-! ### names and constants -/
def mVar (i : Nat) : EnvM → Bag → Res PD := fun env B => match env[i]? with
  | some (some (.d x)) => .ok x B
  | _ => .bad
def mC (d : PD) : EnvM → Bag → Res PD := fun _ B => .ok d B
theorem ed_var (i : Nat) {x : Str} {pos : Pos} (hN : X.N[i]? = some x := by rfl) (hv : Vis X.env.scope x := by first | exact Or.inl rfl | exact Or.inr (Or.inl rfl) | exact Or.inr (Or.inr rfl)) (hd : (x == ("__debug__" : Str)) = false := by decide)
    (hcd : (x == ("__classdict__" : Str)) = false := by decide) : ED X W (.Name x pos) (tVar i) (mVar i) := by
  refine ⟨pe_var hN hv hd hcd, fun w G0 H0 σ env G H B Q R h => ?_⟩
  unfold mVar at h
  cases e : env[i]? with
  | none => rw [e] at h; exact h.elim
  | some o =>
    cases o with
    | none => rw [e] at h; exact h.elim
    | some sv =>
      rw [e] at h
      cases sv with
      | d x =>
        obtain ⟨v, h1, h2⟩ := R.slot i _ e
        exact ⟨v, h1, h v G H Step.refl R.ok h2⟩
      | own xs => exact h.elim
      | ownD xs => exact h.elim
      | bag => exact h.elim
theorem ed_c {e : Expr} {v : V} {d : PD} (h : PE X e (tC v)) (r : ∀ G, DR X.K G v d) : ED X W e (tC v) (mC d) :=
  ⟨h, fun w G0 H0 σ env G H B Q R h => h v G H Step.refl R.ok (r G)⟩
theorem ed_int {i : Int} {j pos} : ED X W (.Constant (.int i) j pos) (tC (.int i)) (mC (.int i)) := ed_c pe_int fun _ => .int i
theorem ed_bl {b : Bool} {j pos} : ED X W (.Constant (.bool b) j pos) (tC (.bl b)) (mC (.bool b)) := ed_c pe_bl fun _ => .bl b
theorem ed_non {j pos} : ED X W (.Constant .none j pos) (tC .non) (mC .none) := ed_c pe_non fun _ => .non
theorem ed_str {x : Str} {j pos} : ED X W (.Constant (.str x) j pos) (tC (.str x)) (mC (.str x)) := ed_c pe_str fun _ => .str x
/-- a constant of the module -/
structure GC (K : Fg) (mg : Str → Option Value) (x : Str) (v : V) (d : PD) : Prop where
  ex : ∃ u : Value, mg x = some u ∧ RelV v u
  dr : ∀ G, DR K G v d
theorem ed_gl {x : Str} {v : V} {d : PD} {pos : Pos} (h : GC X.K X.mg x v d) (hg : Gl X x := by rfl) (hd : (x == ("__debug__" : Str)) = false := by decide) : ED X W (.Name x pos) (tC v) (mC d) := by
  obtain ⟨⟨u, h1, h2⟩, h3⟩ := h
  exact ed_c (pe_glob hg h1 h2 hd) h3

/-! ### operators of two values -/
def OpD (X : Cx) (r : R2) (g : PD → PD → Option PD) : Prop := ∀ (w : Wd) (G H : Hp) (B : Bag) (x y : V) (d e z : PD) (Q : VK), Ok w G H B → DR X.K G x d → DR X.K G y e → g d e = some z →
  (∀ (v : V) (G' H' : Hp), Step w G H G' H' → Ok w G' H' B → DR X.K G' v z → Q v H') → r x y H Q
def OpC (X : Cx) (r : R2) (g : PD → PD → Option Bool) : Prop := ∀ (w : Wd) (G H : Hp) (B : Bag) (x y : V) (d e : PD) (b : Bool) (Q : VK), Ok w G H B → DR X.K G x d → DR X.K G y e → g d e = some b → Q (.bl b) H → r x y H Q
def rOr (r1 r2 : R2) : R2 := fun x y H Q => r1 x y H Q ∨ r2 x y H Q
theorem opR_or {f : Value → Value → Sem Value} {r1 r2 : R2} (h1 : OpR X f r1) (h2 : OpR X f r2) : OpR X f (rOr r1 r2) := by
  intro pins s σ H x y v u Q I rx ry h
  rcases h with h | h
  · exact h1 pins s σ H x y v u Q I rx ry h
  · exact h2 pins s σ H x y v u Q I rx ry h
def gOr {α : Type} (g1 g2 : PD → PD → Option α) : PD → PD → Option α := fun d e => match g1 d e with
  | some z => some z
  | none => g2 d e
theorem opD_or {r1 r2 : R2} {g1 g2 : PD → PD → Option PD} (h1 : OpD X r1 g1) (h2 : OpD X r2 g2) : OpD X (rOr r1 r2) (gOr g1 g2) := by
  intro w G H B x y d e z Q o dx dy hz k
  unfold gOr at hz
  cases q : g1 d e with
  | some z' =>
    rw [q] at hz
    obtain rfl := Option.some.inj hz
    exact .inl (h1 w G H B x y d e _ Q o dx dy q k)
  | none =>
    rw [q] at hz
    exact .inr (h2 w G H B x y d e z Q o dx dy hz k)
theorem opC_or {r1 r2 : R2} {g1 g2 : PD → PD → Option Bool} (h1 : OpC X r1 g1) (h2 : OpC X r2 g2) : OpC X (rOr r1 r2) (gOr g1 g2) := by
  intro w G H B x y d e z Q o dx dy hz k
  unfold gOr at hz
  cases q : g1 d e with
  | some z' =>
    rw [q] at hz
    obtain rfl := Option.some.inj hz
    exact .inl (h1 w G H B x y d e _ Q o dx dy q k)
  | none =>
    rw [q] at hz
    exact .inr (h2 w G H B x y d e z Q o dx dy hz k)
def mOp (g : PD → PD → Option PD) (ma mb : EnvM → Bag → Res PD) : EnvM → Bag → Res PD := fun env B => (ma env B).bind fun x B1 => (mb env B1).bind fun y B2 => match g x y with
  | some z => .ok z B2
  | none => .bad
def mCmp (g : PD → PD → Option Bool) (ma mb : EnvM → Bag → Res PD) : EnvM → Bag → Res Bool := fun env B => (ma env B).bind fun x B1 => (mb env B1).bind fun y B2 => match g x y with
  | some z => .ok z B2
  | none => .bad
def mB (m : EnvM → Bag → Res Bool) : EnvM → Bag → Res PD := fun env B => (m env B).bind fun b B1 => .ok (.bool b) B1
/-- two values in a row -/
theorem two {a b : Expr} {ma mb : EnvM → Bag → Res PD} {ta tb : TE} {w : Wd} {G0 H0 : Hp} {σ : L2.St} {env : EnvM} {G H : Hp} {B : Bag}
    {γ δ : Type} {Rb : Hp → δ → γ → Prop} {f : PD → PD → Bag → Res γ} {Q : δ → Hp → Prop} {k : V → V → Hp → Prop}
    (ra : ∀ (w : Wd) (G0 H0 : Hp) (σ : L2.St) (env : EnvM) (G H : Hp) (B : Bag) (Q : VK), Rel X.K w G0 H0 σ env G H B → PostE X.K X.mg w G H (ma env B) Q (fun c d H' => W c d σ H') → ta σ H Q)
    (rb : ∀ (w : Wd) (G0 H0 : Hp) (σ : L2.St) (env : EnvM) (G H : Hp) (B : Bag) (Q : VK), Rel X.K w G0 H0 σ env G H B → PostE X.K X.mg w G H (mb env B) Q (fun c d H' => W c d σ H') → tb σ H Q)
    (R : Rel X.K w G0 H0 σ env G H B) (h : PostR X.K X.mg w G H Rb ((ma env B).bind fun x B1 => (mb env B1).bind fun y B2 => f x y B2) Q (fun c d H' => W c d σ H'))
    (hk : ∀ x y B2 vx vy G2 H2, Step w G H G2 H2 → Ok w G2 H2 B2 → DR X.K G2 vx x → DR X.K G2 vy y → PostR X.K X.mg w G2 H2 Rb (f x y B2) Q (fun c d H' => W c d σ H') → k vx vy H2) :
    ta σ H fun x H1 => tb σ H1 fun y H2 => k x y H2 := by
  refine ra w G0 H0 σ env G H B _ R (PostR.bind h fun x B1 vx G1 H1 s1 o1 d1 h1 => ?_)
  refine rb w G0 H0 σ env G1 H1 B1 _ (R.step s1 o1) (PostR.bind h1 fun y B2 vy G2 H2 s2 o2 d2 h2 => ?_)
  exact hk x y B2 vx vy G2 H2 (s1.trans s2) o2 (d1.mono s2.exG) d2 h2
theorem ed_op {ta tb : TE} {op : Operator} {r : R2} {g : PD → PD → Option PD} {a b : Expr} {ma mb : EnvM → Bag → Res PD} {pos : Pos} (ho : OpR X (binaryOp op) r) (hd : OpD X r g) (ha : ED X W a ta ma) (hb : ED X W b tb mb) : ED X W (.BinOp a op b pos) (tOp r ta tb) (mOp g ma mb) := by
  obtain ⟨pa, ra⟩ := ha
  obtain ⟨pb, rb⟩ := hb
  refine ⟨pe_op ho pa pb, fun w G0 H0 σ env G H B Q R h => ?_⟩
  refine two (a := a) (b := b) ra rb R h fun x y B2 vx vy G2 H2 s o dx dy h2 => ?_
  cases e : g x y with
  | none => rw [e] at h2; exact h2.elim
  | some z =>
    rw [e] at h2
    exact hd w G2 H2 B2 vx vy x y z Q o dx dy e h2
theorem td_cmp {ta tb : TE} {op : CmpOp} {r : R2} {g : PD → PD → Option Bool} {a b : Expr} {ma mb : EnvM → Bag → Res PD} {pos : Pos} (ho : OpR X (compareOp op) r) (hd : OpC X r g) (ha : ED X W a ta ma) (hb : ED X W b tb mb) (hm : behindInMarks op b = false := by first | exact nomark _ | with_unfolding_all rfl) : TD X W (.Compare a [op] [b] pos) (tTest (tOp r ta tb)) (mCmp g ma mb) := by
  obtain ⟨pa, ra⟩ := ha
  obtain ⟨pb, rb⟩ := hb
  refine ⟨pt_cmpR ho pa pb hm, fun w G0 H0 σ env G H B Q R h => ?_⟩
  refine two (a := a) (b := b) ra rb R h fun x y B2 vx vy G2 H2 s o dx dy h2 => ?_
  cases e : g x y with
  | none => rw [e] at h2; exact h2.elim
  | some z =>
    rw [e] at h2
    exact hd w G2 H2 B2 vx vy x y z _ o dx dy e ⟨z, rfl, h2 z G2 H2 Step.refl o rfl⟩
theorem ed_cmp {ta tb : TE} {op : CmpOp} {r : R2} {g : PD → PD → Option Bool} {a b : Expr} {ma mb : EnvM → Bag → Res PD} {pos : Pos} (ho : OpR X (compareOp op) r) (hd : OpC X r g) (ha : ED X W a ta ma) (hb : ED X W b tb mb) (hm : behindInMarks op b = false := by first | exact nomark _ | with_unfolding_all rfl) : ED X W (.Compare a [op] [b] pos) (tOp r ta tb) (mB (mCmp g ma mb)) := by
  obtain ⟨pa, ra⟩ := ha
  obtain ⟨pb, rb⟩ := hb
  refine ⟨pe_cmpR ho pa pb hm, fun w G0 H0 σ env G H B Q R h => ?_⟩
  have h : PostE X.K X.mg w G H ((ma env B).bind fun x B1 => (mb env B1).bind fun y B2 => match g x y with | some z => .ok (.bool z) B2 | none => .bad) Q (fun c d H' => W c d σ H') := by
    unfold mB mCmp at h
    cases e1 : ma env B with
    | ok x B1 =>
      rw [e1] at h
      simp only [Res.bind] at h ⊢
      cases e2 : mb env B1 with
      | ok y B2 =>
        rw [e2] at h
        simp only [Res.bind] at h ⊢
        cases e3 : g x y with
        | some z => rw [e3] at h; exact h
        | none => rw [e3] at h; exact h
      | exc c as B2 => rw [e2] at h; exact h
      | bad => rw [e2] at h; exact h
    | exc c as B1 => rw [e1] at h; exact h
    | bad => rw [e1] at h; exact h
  refine two (a := a) (b := b) ra rb R h fun x y B2 vx vy G2 H2 s o dx dy h2 => ?_
  cases e : g x y with
  | none => rw [e] at h2; exact h2.elim
  | some z =>
    rw [e] at h2
    exact hd w G2 H2 B2 vx vy x y z _ o dx dy e (h2 (.bl z) G2 H2 Step.refl o (.bl z))
/-- a op b op' c -/
def mChain (g g' : PD → PD → Option Bool) (ma mb mc : EnvM → Bag → Res PD) : EnvM → Bag → Res Bool := fun env B => (ma env B).bind fun x B1 => (mb env B1).bind fun y B2 => match g x y with
  | some true => (mc env B2).bind fun z B3 => match g' y z with
    | some k => .ok k B3
    | none => .bad
  | some false => .ok false B2
  | none => .bad
theorem td_chain {ta tb tc : TE} {op op' : CmpOp} {r r' : R2} {g g' : PD → PD → Option Bool} {a b c : Expr} {ma mb mc : EnvM → Bag → Res PD} {pos : Pos} (ho : OpR X (compareOp op) r) (hd : OpC X r g) (ho' : OpR X (compareOp op') r') (hd' : OpC X r' g')
    (ha : ED X W a ta ma) (hb : ED X W b tb mb) (hc : ED X W c tc mc) (hm : lastMarks [op, op'] [b, c] = false := by with_unfolding_all rfl) : TD X W (.Compare a [op, op'] [b, c] pos) (tTest (tChain r r' ta tb tc)) (mChain g g' ma mb mc) := by
  obtain ⟨pa, ra⟩ := ha
  obtain ⟨pb, rb⟩ := hb
  obtain ⟨pc, rc⟩ := hc
  refine ⟨pt_chain ho ho' pa pb pc hm, fun w G0 H0 σ env G H B Q R h => ?_⟩
  refine two (a := a) (b := b) ra rb R h fun x y B2 vx vy G2 H2 s o dx dy h2 => ?_
  cases e : g x y with
  | none => rw [e] at h2; exact h2.elim
  | some k =>
    rw [e] at h2
    refine hd w G2 H2 B2 vx vy x y k _ o dx dy e ⟨k, rfl, ?_⟩
    cases k with
    | false => exact iteF ⟨false, rfl, h2 false G2 H2 Step.refl o rfl⟩
    | true =>
      refine iteT (rc w G0 H0 σ env G2 H2 B2 _ (R.step s o) (PostR.bind h2 fun z B3 vz G3 H3 s3 o3 d3 h3 => ?_))
      cases e2 : g' y z with
      | none => rw [e2] at h3; exact h3.elim
      | some k' =>
        rw [e2] at h3
        exact hd' w G3 H3 B3 vy vz y z k' _ o3 (dy.mono s3.exG) d3 e2 ⟨k', rfl, h3 k' G3 H3 Step.refl o3 rfl⟩
theorem ed_chain {ta tb tc : TE} {op op' : CmpOp} {r r' : R2} {g g' : PD → PD → Option Bool} {a b c : Expr} {ma mb mc : EnvM → Bag → Res PD} {pos : Pos} (ho : OpR X (compareOp op) r) (hd : OpC X r g) (ho' : OpR X (compareOp op') r') (hd' : OpC X r' g')
    (ha : ED X W a ta ma) (hb : ED X W b tb mb) (hc : ED X W c tc mc) (hm : lastMarks [op, op'] [b, c] = false := by with_unfolding_all rfl) : ED X W (.Compare a [op, op'] [b, c] pos) (tChain r r' ta tb tc) (mB (mChain g g' ma mb mc)) := by
  obtain ⟨pa, ra⟩ := ha
  obtain ⟨pb, rb⟩ := hb
  obtain ⟨pc, rc⟩ := hc
  refine ⟨pe_chain ho ho' pa pb pc hm, fun w G0 H0 σ env G H B Q R h => ?_⟩
  have h : PostE X.K X.mg w G H ((ma env B).bind fun x B1 => (mb env B1).bind fun y B2 => (match g x y with
      | some true => (mc env B2).bind fun z B3 => match g' y z with
        | some k => .ok k B3
        | none => .bad
      | some false => .ok false B2
      | none => .bad : Res Bool).bind fun b B3 => .ok (.bool b) B3) Q (fun c d H' => W c d σ H') := by
    unfold mB mChain at h
    cases e1 : ma env B with
    | ok x B1 =>
      rw [e1] at h
      simp only [Res.bind] at h ⊢
      cases e2 : mb env B1 with
      | ok y B2 =>
        rw [e2] at h
        exact h
      | exc c as B2 => rw [e2] at h; exact h
      | bad => rw [e2] at h; exact h
    | exc c as B1 => rw [e1] at h; exact h
    | bad => rw [e1] at h; exact h
  refine two (a := a) (b := b) ra rb R h fun x y B2 vx vy G2 H2 s o dx dy h2 => ?_
  cases e : g x y with
  | none => rw [e] at h2; exact h2.elim
  | some k =>
    rw [e] at h2
    refine hd w G2 H2 B2 vx vy x y k _ o dx dy e ⟨k, rfl, ?_⟩
    cases k with
    | false => exact iteF (h2 (.bl false) G2 H2 Step.refl o (.bl false))
    | true =>
      have h2 : PostE X.K X.mg w G2 H2 ((mc env B2).bind fun z B3 => (match g' y z with | some k => .ok (.bool k) B3 | none => .bad)) Q (fun c d H' => W c d σ H') := by
        cases e3 : mc env B2 with
        | ok z B3 =>
          simp only [e3, Res.bind] at h2 ⊢
          cases e4 : g' y z with
          | some k => simp only [e4] at h2 ⊢; exact h2
          | none => simp only [e4] at h2 ⊢; exact h2
        | exc c as B3 => simp only [e3, Res.bind] at h2 ⊢; exact h2
        | bad => simp only [e3, Res.bind] at h2 ⊢; exact h2
      refine iteT (rc w G0 H0 σ env G2 H2 B2 _ (R.step s o) (PostR.bind h2 fun z B3 vz G3 H3 s3 o3 d3 h3 => ?_))
      cases e2 : g' y z with
      | none => rw [e2] at h3; exact h3.elim
      | some k' =>
        rw [e2] at h3
        exact hd' w G3 H3 B3 vy vz y z k' _ o3 (dy.mono s3.exG) d3 e2 (h3 (.bl k') G3 H3 Step.refl o3 (.bl k'))

/-! ### tests -/
def tTruth (K : Fg) (ta : TE) : TT := fun σ H Q => ta σ H fun x H' => ∃ k, TruV K x H' k ∧ Q k H'
def mTru (tr : PD → Option Bool) (m : EnvM → Bag → Res PD) : EnvM → Bag → Res Bool := fun env B => (m env B).bind fun x B1 => match tr x with
  | some b => .ok b B1
  | none => .bad
def truP : PD → Option Bool
  | .none => some false
  | .bool b => some b
  | .int i => some (i != 0)
  | .str x => if x.length ≤ sizeLine then some ((x.length : Int) != 0) else none
  | .list ds => some (!ds.isEmpty)
  | .tuple ds => some (!ds.isEmpty)
  | .dict ds => some (!ds.isEmpty)
theorem isEmpty_drs {K : Fg} {G : Hp} {vs : List V} {ds : List PD} (r : DRs K G vs ds) : (!ds.isEmpty) = !vs.isEmpty := by
  cases r <;> rfl
theorem truV_of {K : Fg} {G H : Hp} {v : V} {d : PD} {b : Bool} (hs : Sub G H) (h : DR K G v d) (e : truP d = some b) : TruV K v H b := by
  cases h with
  | non => cases e; rfl
  | bl b => cases e; rfl
  | int i => cases e; rfl
  | str x =>
    have e : (if x.length ≤ sizeLine then some ((x.length : Int) != 0) else none) = some b := e
    by_cases hx : x.length ≤ sizeLine
    · rw [if_pos hx] at e
      cases e
      exact ⟨hx, rfl⟩
    · rw [if_neg hx] at e; cases e
  | lst ha r =>
    cases e
    exact .inl ⟨_, SqL.of (hs _ _ ha), isEmpty_drs r⟩
  | tup ha r =>
    cases e
    exact .inr (.inl ⟨_, subT hs ha, isEmpty_drs r⟩)
  | dct ha r =>
    cases e
    refine .inr (.inr ⟨_, hs _ _ ha, ?_⟩)
    cases r <;> rfl
/-- any expression whose test is its value's truth -/
theorem td_tru {t : TE} {e : Expr} {m : EnvM → Bag → Res PD} (h : ED X W e t m) (he : ∀ whole, isTrue e X.env whole = (do let v ← whole; standAt e.pos; holding [v] (truthy v)) := by intro _; rfl) : TD X W e (tTruth X.K t) (mTru truP m) := by
  obtain ⟨p, r⟩ := h
  refine ⟨pt_truth p he, fun w G0 H0 σ env G H B Q R h => ?_⟩
  refine r w G0 H0 σ env G H B _ R (PostR.bind h fun x B1 v G1 H1 s1 o1 d1 h1 => ?_)
  cases e : truP x with
  | none => rw [e] at h1; exact h1.elim
  | some b =>
    rw [e] at h1
    exact ⟨b, truV_of o1.sub d1 e, h1 b G1 H1 Step.refl o1 rfl⟩
def mAnd (a b : EnvM → Bag → Res Bool) : EnvM → Bag → Res Bool := fun env B => (a env B).bind fun k B1 => if k = true then b env B1 else .ok false B1
def mOr (a b : EnvM → Bag → Res Bool) : EnvM → Bag → Res Bool := fun env B => (a env B).bind fun k B1 => if k = true then .ok true B1 else b env B1
def mNot (a : EnvM → Bag → Res Bool) : EnvM → Bag → Res Bool := fun env B => (a env B).bind fun k B1 => .ok (!k) B1
theorem td_not {t : TT} {a : Expr} {m : EnvM → Bag → Res Bool} {pos : Pos} (h : TD X W a t m) : TD X W (.UnaryOp .Not a pos) (tNot t) (mNot m) := by
  obtain ⟨p, r⟩ := h
  refine ⟨pt_not p, fun w G0 H0 σ env G H B Q R h => ?_⟩
  refine r w G0 H0 σ env G H B _ R (PostR.bind h fun x B1 v G1 H1 s1 o1 d1 h1 => ?_)
  subst d1
  exact h1 (!v) G1 H1 Step.refl o1 rfl
theorem wd_and1 {t : TT} {a : Expr} {m : EnvM → Bag → Res Bool} {pos : Pos} (h : TD X W a t m) : WD X W (.BoolOp .And [a] pos) t m := by
  obtain ⟨p, r⟩ := h
  exact ⟨pw_and1 p, r⟩
theorem wd_or1 {t : TT} {a : Expr} {m : EnvM → Bag → Res Bool} {pos : Pos} (h : TD X W a t m) : WD X W (.BoolOp .Or [a] pos) t m := by
  obtain ⟨p, r⟩ := h
  exact ⟨pw_or1 p, r⟩
theorem wd_and {t t2 : TT} {a b : Expr} {rest : List Expr} {ma mb : EnvM → Bag → Res Bool} {pos : Pos} (ha : TD X W a t ma) (hb : WD X W (.BoolOp .And (b :: rest) pos) t2 mb) : WD X W (.BoolOp .And (a :: b :: rest) pos) (tAnd t t2) (mAnd ma mb) := by
  obtain ⟨p, r⟩ := ha
  obtain ⟨p2, r2⟩ := hb
  refine ⟨pw_and p p2, fun w G0 H0 σ env G H B Q R h => ?_⟩
  refine r w G0 H0 σ env G H B _ R (PostR.bind h fun x B1 v G1 H1 s1 o1 d1 h1 => ?_)
  subst d1
  cases v with
  | true => exact iteT (r2 w G0 H0 σ env G1 H1 B1 Q (R.step s1 o1) h1)
  | false => exact iteF (h1 false G1 H1 Step.refl o1 rfl)
theorem wd_or {t t2 : TT} {a b : Expr} {rest : List Expr} {ma mb : EnvM → Bag → Res Bool} {pos : Pos} (ha : TD X W a t ma) (hb : WD X W (.BoolOp .Or (b :: rest) pos) t2 mb) : WD X W (.BoolOp .Or (a :: b :: rest) pos) (tOr t t2) (mOr ma mb) := by
  obtain ⟨p, r⟩ := ha
  obtain ⟨p2, r2⟩ := hb
  refine ⟨pw_or p p2, fun w G0 H0 σ env G H B Q R h => ?_⟩
  refine r w G0 H0 σ env G H B _ R (PostR.bind h fun x B1 v G1 H1 s1 o1 d1 h1 => ?_)
  subst d1
  cases v with
  | false => exact iteF (r2 w G0 H0 σ env G1 H1 B1 Q (R.step s1 o1) h1)
  | true => exact iteT (h1 true G1 H1 Step.refl o1 rfl)
theorem WD.td {t : TT} {e : Expr} {m : EnvM → Bag → Res Bool} (h : WD X W e t m) : TD X W e t m := by
  obtain ⟨p, r⟩ := h
  exact ⟨p.pt, r⟩
/-- and, or, not as values: all but the last are truths -/
def mAndV (a b : EnvM → Bag → Res PD) : EnvM → Bag → Res PD := fun env B => (a env B).bind fun x B1 => match x with
  | .bool true => b env B1
  | .bool false => .ok (.bool false) B1
  | _ => .bad
def mOrV (a b : EnvM → Bag → Res PD) : EnvM → Bag → Res PD := fun env B => (a env B).bind fun x B1 => match x with
  | .bool true => .ok (.bool true) B1
  | .bool false => b env B1
  | _ => .bad
def mNotV (a : EnvM → Bag → Res PD) : EnvM → Bag → Res PD := fun env B => (a env B).bind fun x B1 => match x with
  | .bool k => .ok (.bool (!k)) B1
  | _ => .bad
theorem ed_one {t : TE} {op} {a : Expr} {m : EnvM → Bag → Res PD} {pos : Pos} (h : ED X W a t m) : ED X W (.BoolOp op [a] pos) t m := by
  obtain ⟨p, r⟩ := h
  exact ⟨pe_one p, r⟩
theorem DR.bool_inv {K : Fg} {G : Hp} {v : V} {b : Bool} (h : DR K G v (.bool b)) : v = .bl b := by cases h; rfl
theorem DR.int_inv {K : Fg} {G : Hp} {v : V} {i : Int} (h : DR K G v (.int i)) : v = .int i := by cases h; rfl
theorem DR.str_inv {K : Fg} {G : Hp} {v : V} {x : Str} (h : DR K G v (.str x)) : v = .str x := by cases h; rfl
theorem ed_and {t t2 : TE} {a b : Expr} {rest : List Expr} {ma mb : EnvM → Bag → Res PD} {pos : Pos} (ha : ED X W a t ma) (hb : ED X W (.BoolOp .And (b :: rest) pos) t2 mb) : ED X W (.BoolOp .And (a :: b :: rest) pos) (tAndV t t2) (mAndV ma mb) := by
  obtain ⟨p, r⟩ := ha
  obtain ⟨p2, r2⟩ := hb
  refine ⟨pe_and p p2, fun w G0 H0 σ env G H B Q R h => ?_⟩
  refine r w G0 H0 σ env G H B _ R (PostR.bind h fun x B1 v G1 H1 s1 o1 d1 h1 => ?_)
  cases x with
  | bool k =>
    have e := d1.bool_inv
    refine ⟨k, e, ?_⟩
    cases k with
    | true => exact iteT (r2 w G0 H0 σ env G1 H1 B1 Q (R.step s1 o1) h1)
    | false => exact iteF (h1 (.bl false) G1 H1 Step.refl o1 (.bl false))
  | _ => exact (show False from h1).elim
theorem ed_or {t t2 : TE} {a b : Expr} {rest : List Expr} {ma mb : EnvM → Bag → Res PD} {pos : Pos} (ha : ED X W a t ma) (hb : ED X W (.BoolOp .Or (b :: rest) pos) t2 mb) : ED X W (.BoolOp .Or (a :: b :: rest) pos) (tOrV t t2) (mOrV ma mb) := by
  obtain ⟨p, r⟩ := ha
  obtain ⟨p2, r2⟩ := hb
  refine ⟨pe_or p p2, fun w G0 H0 σ env G H B Q R h => ?_⟩
  refine r w G0 H0 σ env G H B _ R (PostR.bind h fun x B1 v G1 H1 s1 o1 d1 h1 => ?_)
  cases x with
  | bool k =>
    have e := d1.bool_inv
    refine ⟨k, e, ?_⟩
    cases k with
    | false => exact iteF (r2 w G0 H0 σ env G1 H1 B1 Q (R.step s1 o1) h1)
    | true => exact iteT (h1 (.bl true) G1 H1 Step.refl o1 (.bl true))
  | _ => exact (show False from h1).elim
theorem ed_not {t : TE} {a : Expr} {m : EnvM → Bag → Res PD} {pos : Pos} (ha : ED X W a t m) : ED X W (.UnaryOp .Not a pos) (tNotV t) (mNotV m) := by
  obtain ⟨p, r⟩ := ha
  refine ⟨pe_not p, fun w G0 H0 σ env G H B Q R h => ?_⟩
  refine r w G0 H0 σ env G H B _ R (PostR.bind h fun x B1 v G1 H1 s1 o1 d1 h1 => ?_)
  cases x with
  | bool k => exact ⟨k, d1.bool_inv, h1 (.bl (!k)) G1 H1 Step.refl o1 (.bl (!k))⟩
  | _ => exact (show False from h1).elim
/-- a if t else b -/
def mIfE (c : EnvM → Bag → Res Bool) (a b : EnvM → Bag → Res PD) : EnvM → Bag → Res PD := fun env B => (c env B).bind fun k B1 => if k = true then a env B1 else b env B1
theorem ed_if {t : TT} {t1 t2 : TE} {c a b : Expr} {mc : EnvM → Bag → Res Bool} {ma mb : EnvM → Bag → Res PD} {pos : Pos} (hc : TD X W c t mc) (ha : ED X W a t1 ma) (hb : ED X W b t2 mb) : ED X W (.IfExp c a b pos) (tIf t t1 t2) (mIfE mc ma mb) := by
  obtain ⟨p, r⟩ := hc
  obtain ⟨p1, r1⟩ := ha
  obtain ⟨p2, r2⟩ := hb
  refine ⟨pe_ifExp p p1 p2, fun w G0 H0 σ env G H B Q R h => ?_⟩
  refine r w G0 H0 σ env G H B _ R (PostR.bind h fun x B1 v G1 H1 s1 o1 d1 h1 => ?_)
  subst d1
  cases v with
  | true => exact iteT (r1 w G0 H0 σ env G1 H1 B1 Q (R.step s1 o1) h1)
  | false => exact iteF (r2 w G0 H0 σ env G1 H1 B1 Q (R.step s1 o1) h1)

/-! ### arguments -/
def mG (m : EnvM → Bag → Res PD) : EnvM → Bag → Res SV := fun env B => (m env B).bind fun d B1 => .ok (.d d) B1
theorem gd {t : TE} {e : Expr} {m : EnvM → Bag → Res PD} (h : ED X W e t m) : GD X W e t (mG m) := by
  obtain ⟨p, r⟩ := h
  refine ⟨p, fun w G0 H0 σ env G H B Q R h => ?_⟩
  exact r w G0 H0 σ env G H B _ R (PostR.bind h fun x B1 v G1 H1 s1 o1 d1 h1 => h1 v G1 H1 Step.refl o1 d1)
/-- the bag's name -/
def mBag (i : Nat) : EnvM → Bag → Res SV := fun env B => match env[i]? with
  | some (some .bag) => .ok .bag B
  | _ => .bad
theorem gd_bag (i : Nat) {x : Str} {pos : Pos} (hN : X.N[i]? = some x := by rfl) (hv : Vis X.env.scope x := by first | exact Or.inl rfl | exact Or.inr (Or.inl rfl) | exact Or.inr (Or.inr rfl)) (hd : (x == ("__debug__" : Str)) = false := by decide)
    (hcd : (x == ("__classdict__" : Str)) = false := by decide) : GD X W (.Name x pos) (tVar i) (mBag i) := by
  refine ⟨pe_var hN hv hd hcd, fun w G0 H0 σ env G H B Q R h => ?_⟩
  unfold mBag at h
  cases e : env[i]? with
  | none => rw [e] at h; exact h.elim
  | some o =>
    cases o with
    | none => rw [e] at h; exact h.elim
    | some sv =>
      rw [e] at h
      cases sv with
      | d x => exact h.elim
      | own xs => exact h.elim
      | ownD xs => exact h.elim
      | bag =>
        obtain ⟨v, h1, h2⟩ := R.slot i _ e
        exact ⟨v, h1, h v G H Step.refl R.ok h2⟩
def mNil : EnvM → Bag → Res (List SV) := fun _ B => .ok [] B
def mCons (a : EnvM → Bag → Res SV) (r : EnvM → Bag → Res (List SV)) : EnvM → Bag → Res (List SV) := fun env B => (a env B).bind fun x B1 => (r env B1).bind fun xs B2 => .ok (x :: xs) B2
theorem ad_nil : AD X W [] tNil mNil := ⟨pa_nil, fun w G0 H0 σ env G H B Q R h => h [] G H Step.refl R.ok .nil⟩
theorem ad_cons {t : TE} {t2 : TA} {e : Expr} {es : List Expr} {m : EnvM → Bag → Res SV} {mr : EnvM → Bag → Res (List SV)} (he : GD X W e t m) (hr : AD X W es t2 mr) (hs : starEach (e :: es) X.env = (false, eval e X.env) :: starEach es X.env := by rfl) : AD X W (e :: es) (tCons t t2) (mCons m mr) := by
  obtain ⟨p, r⟩ := he
  obtain ⟨p2, r2⟩ := hr
  refine ⟨pa_cons p p2 hs, fun w G0 H0 σ env G H B Q R h => ?_⟩
  refine r w G0 H0 σ env G H B _ R (PostR.bind h fun x B1 v G1 H1 s1 o1 d1 h1 => ?_)
  refine r2 w G0 H0 σ env G1 H1 B1 _ (R.step s1 o1) (PostR.bind h1 fun xs B2 vs G2 H2 s2 o2 d2 h2 => ?_)
  exact h2 (v :: vs) G2 H2 Step.refl o2 (.cons (d1.mono s2.exG) d2)
/-- all of them data -/
def unD : List SV → Option (List PD)
  | [] => some []
  | .d x :: r => (unD r).map (x :: ·)
  | _ :: _ => none
theorem ARs.un {K : Fg} {w : Wd} {G : Hp} : ∀ {vs : List V} {ss : List SV} {ds : List PD}, ARs K w G vs ss → unD ss = some ds → DRs K G vs ds
  | _, _, _, .nil, e => by cases e; exact .nil
  | _, _, ds, .cons (s := .d x) (ss := ss) h r, e => by
    unfold unD at e
    cases q : unD ss with
    | none => rw [q] at e; cases e
    | some es =>
      rw [q] at e
      cases e
      exact .cons h (ARs.un r q)
  | _, _, _, .cons (s := .own xs) h r, e => by cases e
  | _, _, _, .cons (s := .bag) h r, e => by cases e

/-! ### displays -/
def mTup (m : EnvM → Bag → Res (List SV)) : EnvM → Bag → Res PD := fun env B => (m env B).bind fun ss B1 => match unD ss with
  | some ds => if ds.length ≤ sizeLine then .ok (.tuple ds) B1 else .bad
  | none => .bad
def mLst (m : EnvM → Bag → Res (List SV)) : EnvM → Bag → Res PD := fun env B => (m env B).bind fun ss B1 => match unD ss with
  | some ds => if ds.length ≤ sizeLine then .ok (.list ds) B1 else .bad
  | none => .bad
theorem ed_tup {t : TA} {es : List Expr} {m : EnvM → Bag → Res (List SV)} {x1} {pos : Pos} (h : AD X W es t m) : ED X W (.Tuple es x1 pos) (ZT.tTupP t) (mTup m) := by
  obtain ⟨p, r⟩ := h
  refine ⟨ZT.pe_tupP p, fun w G0 H0 σ env G H B Q R h => ?_⟩
  refine r w G0 H0 σ env G H B _ R (PostR.bind h fun ss B1 vs G1 H1 s1 o1 d1 h1 => ?_)
  cases e : unD ss with
  | none => rw [e] at h1; exact h1.elim
  | some ds =>
    rw [e] at h1
    have q := d1.un e
    by_cases hl : ds.length ≤ sizeLine
    · simp only [if_pos hl] at h1
      refine ⟨by rw [q.length]; exact hl, fun a ob ha hd => h1 (.ref a) _ _ (Step.new o1.sub ha) (o1.new ha) ?_⟩
      exact .tup (PT.new hd) (q.mono (new_sub o1.sub ha))
    · simp only [if_neg hl] at h1
      exact h1.elim
theorem ed_lst {t : TA} {es : List Expr} {m : EnvM → Bag → Res (List SV)} {pos : Pos} (h : AD X W es t m) : ED X W (.List es pos) (tLst t) (mLst m) := by
  obtain ⟨p, r⟩ := h
  refine ⟨pe_lst p, fun w G0 H0 σ env G H B Q R h => ?_⟩
  refine r w G0 H0 σ env G H B _ R (PostR.bind h fun ss B1 vs G1 H1 s1 o1 d1 h1 => ?_)
  cases e : unD ss with
  | none => rw [e] at h1; exact h1.elim
  | some ds =>
    rw [e] at h1
    have q := d1.un e
    by_cases hl : ds.length ≤ sizeLine
    · simp only [if_pos hl] at h1
      refine ⟨by rw [q.length]; exact hl, fun a ha => h1 (.ref a) _ _ (Step.new o1.sub ha) (o1.new ha) ?_⟩
      exact .lst upd_same (q.mono (new_sub o1.sub ha))
    · simp only [if_neg hl] at h1
      exact h1.elim
end
end DL
set_option Elab.async false
set_option linter.all false
set_option maxRecDepth 100000
set_option maxHeartbeats 2000000
/-! DL2: operators, subscripts, slices, built-in calls over data. -/
namespace DL
open PySem L2
open ZT (PT)
section
variable {X : Cx} {W : WX}
theorem subL {K : Fg} {G H : Hp} {a : Addr} {xs : List V} (hs : Sub G H) (h : G a = some (.lst xs)) : SqL K H a xs := SqL.of (hs _ _ h)
/-! ### a + b -/
def addP : PD → PD → Option PD
  | .int i, .int j => some (.int (i + j))
  | .str x, .str y => if x.length + y.length ≤ sizeLine then some (.str (x ++ y)) else none
  | .list xs, .list ys => if xs.length + ys.length ≤ sizeLine then some (.list (xs ++ ys)) else none
  | .tuple xs, .tuple ys => if xs.length + ys.length ≤ sizeLine then some (.tuple (xs ++ ys)) else none
  | _, _ => none
def rAddU (K : Fg) : R2 := rOr (rI0 fun i j => .int (i + j)) (rOr (fun x y H Q => ∃ i j, x = .str i ∧ y = .str j ∧ i.length + j.length ≤ sizeLine ∧ Q (.str (i ++ j)) H) (rOr rCat (ZT.rCatP K)))
theorem op_addU : OpR X (binaryOp .Add) (rAddU X.K) := opR_or op_add (opR_or op_add_str (opR_or op_cat ZT.op_catP))
theorem some_if {α : Type} {c : Prop} [Decidable c] {a b : α} (h : (if c then some a else none) = some b) : c ∧ a = b := by
  by_cases q : c
  · rw [if_pos q] at h
    exact ⟨q, Option.some.inj h⟩
  · rw [if_neg q] at h; cases h
theorem opD_add : OpD X (rAddU X.K) addP := by
  intro w G H B x y d e z Q o dx dy hz k
  unfold addP at hz
  split at hz
  · cases dx; cases dy; cases hz
    exact .inl ⟨_, _, rfl, rfl, k _ G H Step.refl o (.int _)⟩
  · cases dx; cases dy
    obtain ⟨hl, rfl⟩ := some_if hz
    exact .inr (.inl ⟨_, _, rfl, rfl, hl, k _ G H Step.refl o (.str _)⟩)
  · obtain ⟨hl, rfl⟩ := some_if hz
    cases dx with
    | lst h1 r1 =>
      cases dy with
      | lst h2 r2 =>
        refine .inr (.inr (.inl ⟨_, _, _, _, rfl, rfl, o.sub _ _ h1, o.sub _ _ h2, by rw [r1.length, r2.length]; exact hl, fun p hp => ?_⟩))
        exact k _ _ _ (Step.new o.sub hp) (o.new hp) (.lst upd_same ((r1.append r2).mono (new_sub o.sub hp)))
  · obtain ⟨hl, rfl⟩ := some_if hz
    cases dx with
    | tup h1 r1 =>
      cases dy with
      | tup h2 r2 =>
        refine .inr (.inr (.inr ⟨_, _, _, _, rfl, rfl, subT o.sub h1, subT o.sub h2, by rw [r1.length, r2.length]; exact hl, fun e => ?_, fun e1 e2 => ?_, fun e1 e2 p ob hp hd => ?_⟩))
        · subst e
          cases r1
          exact k _ G H Step.refl o (.tup h2 r2)
        · subst e2
          cases r2
          rw [List.append_nil] at k
          exact k _ G H Step.refl o (.tup h1 r1)
        · exact k _ _ _ (Step.new o.sub hp) (o.new hp) (.tup (PT.new hd) ((r1.append r2).mono (new_sub o.sub hp)))
  · cases hz
/-! ### ints -/
def int2 (f : Int → Int → Option PD) : PD → PD → Option PD
  | .int i, .int j => f i j
  | _, _ => none
theorem int2_inv {f : Int → Int → Option PD} {d e z : PD} (h : int2 f d e = some z) : ∃ i j, d = .int i ∧ e = .int j ∧ f i j = some z := by
  unfold int2 at h
  split at h
  · exact ⟨_, _, rfl, rfl, h⟩
  · cases h
def subP : PD → PD → Option PD := int2 fun i j => some (.int (i - j))
def fdivP : PD → PD → Option PD := int2 fun i j => if j ≠ 0 ∧ j.natAbs < 1073741824 then some (.int (i.fdiv j)) else none
def modP : PD → PD → Option PD := int2 fun i j => if j ≠ 0 then some (.int (i.fmod j)) else none
def powP : PD → PD → Option PD := int2 fun i j => if 0 ≤ j ∧ j ≤ 1000000 ∧ i.natAbs < 2 ^ 64 then some (.int (i ^ j.toNat)) else none
theorem opD_sub : OpD X (rI0 fun i j => .int (i - j)) subP := by
  intro w G H B x y d e z Q o dx dy hz k
  obtain ⟨i, j, rfl, rfl, h⟩ := int2_inv hz
  cases dx; cases dy; cases h
  exact ⟨_, _, rfl, rfl, k _ G H Step.refl o (.int _)⟩
theorem opD_fdiv : OpD X (rI CDivN fun i j => .int (i.fdiv j)) fdivP := by
  intro w G H B x y d e z Q o dx dy hz k
  obtain ⟨i, j, rfl, rfl, h⟩ := int2_inv hz
  obtain ⟨hc, rfl⟩ := some_if h
  cases dx; cases dy
  exact ⟨_, _, rfl, rfl, hc, k _ G H Step.refl o (.int _)⟩
theorem opD_mod : OpD X (rI (fun _ j => j ≠ 0) fun i j => .int (i.fmod j)) modP := by
  intro w G H B x y d e z Q o dx dy hz k
  obtain ⟨i, j, rfl, rfl, h⟩ := int2_inv hz
  obtain ⟨hc, rfl⟩ := some_if h
  cases dx; cases dy
  exact ⟨_, _, rfl, rfl, hc, k _ G H Step.refl o (.int _)⟩
theorem opD_pow : OpD X (rI CPow fun i j => .int (i ^ j.toNat)) powP := by
  intro w G H B x y d e z Q o dx dy hz k
  obtain ⟨i, j, rfl, rfl, h⟩ := int2_inv hz
  obtain ⟨hc, rfl⟩ := some_if h
  cases dx; cases dy
  exact ⟨_, _, rfl, rfl, hc, k _ G H Step.refl o (.int _)⟩
/-! ### a * b -/
def mulP : PD → PD → Option PD
  | .int i, .int j => if (-(2 ^ 64) < i ∧ i < 2 ^ 64) ∨ (-(2 ^ 64) < j ∧ j < 2 ^ 64) then some (.int (i * j)) else none
  | .list xs, .int j => if -(2 ^ 63) ≤ j ∧ j < 2 ^ 63 ∧ xs.length * j.toNat ≤ sizeLine then some (.list (List.replicate j.toNat xs).flatten) else none
  | _, _ => none
theorem DRs.rep {K : Fg} {G : Hp} {vs : List V} {ds : List PD} (r : DRs K G vs ds) : ∀ n : Nat, DRs K G (List.replicate n vs).flatten (List.replicate n ds).flatten
  | 0 => .nil
  | n + 1 => by
    rw [List.replicate_succ, List.replicate_succ, List.flatten_cons, List.flatten_cons]
    exact r.append (DRs.rep r n)
theorem opD_mul : OpD X (rOr (rI CMul fun i j => .int (i * j)) rRep) mulP := by
  intro w G H B x y d e z Q o dx dy hz k
  unfold mulP at hz
  split at hz
  · obtain ⟨hc, rfl⟩ := some_if hz
    cases dx; cases dy
    exact .inl ⟨_, _, rfl, rfl, hc, k _ G H Step.refl o (.int _)⟩
  · obtain ⟨⟨h1, h2, h3⟩, rfl⟩ := some_if hz
    cases dy
    cases dx with
    | lst hx rx =>
      refine .inr ⟨_, _, _, rfl, rfl, o.sub _ _ hx, h1, h2, by rw [rx.length]; exact h3, fun p hp => ?_⟩
      exact k _ _ _ (Step.new o.sub hp) (o.new hp) (.lst upd_same ((rx.rep _).mono (new_sub o.sub hp)))
  · cases hz
theorem op_mulU : OpR X (binaryOp .Mult) (rOr (rI CMul fun i j => .int (i * j)) rRep) := opR_or op_mul op_rep
theorem ed_add {a b : Expr} {ta tb : TE} {ma mb : EnvM → Bag → Res PD} {pos : Pos} (ha : ED X W a ta ma) (hb : ED X W b tb mb) : ED X W (.BinOp a .Add b pos) (tOp (rAddU X.K) ta tb) (mOp addP ma mb) := ed_op op_addU opD_add ha hb
theorem ed_sub {a b : Expr} {ta tb : TE} {ma mb : EnvM → Bag → Res PD} {pos : Pos} (ha : ED X W a ta ma) (hb : ED X W b tb mb) : ED X W (.BinOp a .Sub b pos) (tOp (rI0 fun i j => .int (i - j)) ta tb) (mOp subP ma mb) := ed_op op_sub opD_sub ha hb
theorem ed_mul {a b : Expr} {ta tb : TE} {ma mb : EnvM → Bag → Res PD} {pos : Pos} (ha : ED X W a ta ma) (hb : ED X W b tb mb) : ED X W (.BinOp a .Mult b pos) (tOp (rOr (rI CMul fun i j => .int (i * j)) rRep) ta tb) (mOp mulP ma mb) := ed_op op_mulU opD_mul ha hb
theorem ed_fdiv {a b : Expr} {ta tb : TE} {ma mb : EnvM → Bag → Res PD} {pos : Pos} (ha : ED X W a ta ma) (hb : ED X W b tb mb) : ED X W (.BinOp a .FloorDiv b pos) (tOp (rI CDivN fun i j => .int (i.fdiv j)) ta tb) (mOp fdivP ma mb) := ed_op op_fdivN opD_fdiv ha hb
theorem ed_mod {a b : Expr} {ta tb : TE} {ma mb : EnvM → Bag → Res PD} {pos : Pos} (ha : ED X W a ta ma) (hb : ED X W b tb mb) : ED X W (.BinOp a .Mod b pos) (tOp (rI (fun _ j => j ≠ 0) fun i j => .int (i.fmod j)) ta tb) (mOp modP ma mb) := ed_op op_modN opD_mod ha hb
theorem ed_pow {a b : Expr} {ta tb : TE} {ma mb : EnvM → Bag → Res PD} {pos : Pos} (ha : ED X W a ta ma) (hb : ED X W b tb mb) : ED X W (.BinOp a .Pow b pos) (tOp (rI CPow fun i j => .int (i ^ j.toNat)) ta tb) (mOp powP ma mb) := ed_op op_pow opD_pow ha hb
/-- -a -/
def mNeg (m : EnvM → Bag → Res PD) : EnvM → Bag → Res PD := fun env B => (m env B).bind fun x B1 => match x with
  | .int i => .ok (.int (-i)) B1
  | _ => .bad
theorem ed_neg {a : Expr} {t : TE} {m : EnvM → Bag → Res PD} {pos : Pos} (h : ED X W a t m) : ED X W (.UnaryOp .USub a pos) (tUn (rU fun i => .int (-i)) t) (mNeg m) := by
  obtain ⟨p, r⟩ := h
  refine ⟨pe_un un_neg p, fun w G0 H0 σ env G H B Q R h => ?_⟩
  refine r w G0 H0 σ env G H B _ R (PostR.bind h fun x B1 v G1 H1 s1 o1 d1 h1 => ?_)
  cases x with
  | int i => exact ⟨i, d1.int_inv, h1 (.int (-i)) G1 H1 Step.refl o1 (.int (-i))⟩
  | _ => exact (show False from h1).elim

/-! ### comparisons -/
def cmpI (f : Int → Int → Bool) : PD → PD → Option Bool
  | .int i, .int j => some (f i j)
  | _, _ => none
theorem opC_int {f : Int → Int → Bool} : OpC X (rI0 fun i j => .bl (f i j)) (cmpI f) := by
  intro w G H B x y d e b Q o dx dy hz k
  unfold cmpI at hz
  split at hz
  · cases dx; cases dy; cases hz
    exact ⟨_, _, rfl, rfl, k⟩
  · cases hz
abbrev ltP := cmpI fun i j => decide (i < j)
abbrev leP := cmpI fun i j => decide (i ≤ j)
abbrev gtP := cmpI fun i j => decide (j < i)
abbrev geP := cmpI fun i j => decide (j ≤ i)
def eqP (d e : PD) : Option Bool := if SeqAt.shaped d = true ∧ SeqAt.shaped e = true then some (PyData.eqv d e) else none
def neP (d e : PD) : Option Bool := if SeqAt.shaped d = true ∧ SeqAt.shaped e = true then some (!PyData.eqv d e) else none
theorem opC_eq : OpC X (rEqD X.K) eqP := by
  intro w G H B x y d e b Q o dx dy hz k
  obtain ⟨⟨h1, h2⟩, rfl⟩ := some_if hz
  exact ⟨d, e, (dx.mono o.sub).dp (SeqAt.canLay_of_shaped h1), (dy.mono o.sub).dp (SeqAt.canLay_of_shaped h2), h1, h2, k⟩
theorem opC_ne : OpC X (rNeD X.K) neP := by
  intro w G H B x y d e b Q o dx dy hz k
  obtain ⟨⟨h1, h2⟩, rfl⟩ := some_if hz
  exact ⟨d, e, (dx.mono o.sub).dp (SeqAt.canLay_of_shaped h1), (dy.mono o.sub).dp (SeqAt.canLay_of_shaped h2), h1, h2, k⟩
/-! ### in -/
def flatP : PD → Bool
  | .none => true
  | .bool _ => true
  | .int _ => true
  | .str _ => true
  | _ => false
def inP : PD → PD → Option Bool
  | .str x, .str z => if x.cps.size = 1 then some (decide (x.cps.getD 0 0 ∈ z.cps.toList)) else none
  | d, .list es => if flatP d = true ∧ es.all flatP = true then some (es.any fun e => PyData.eqv e d) else none
  | d, .tuple es => if flatP d = true ∧ es.all flatP = true then some (es.any fun e => PyData.eqv e d) else none
  | _, _ => none
def ninP (d e : PD) : Option Bool := (inP d e).map (!·)
theorem flat_of {K : Fg} {G : Hp} {v : V} {d : PD} (h : DR K G v d) (f : flatP d = true) : flatV v = true := by
  cases h <;> first | rfl | exact absurd f Bool.false_ne_true
theorem flats_of {K : Fg} {G : Hp} : ∀ {vs : List V} {ds : List PD}, DRs K G vs ds → ds.all flatP = true → vs.all flatV = true
  | _, _, .nil, _ => rfl
  | _, _, .cons h r, f => by
    rw [List.all_cons, Bool.and_eq_true] at f ⊢
    exact ⟨flat_of h f.1, flats_of r f.2⟩
theorem eqV_of {K : Fg} {G : Hp} {v u : V} {d e : PD} (h : DR K G v d) (h2 : DR K G u e) (f : flatP d = true) (f2 : flatP e = true) : eqV v u = PyData.eqv d e := by
  (cases h <;> cases h2) <;> first | rfl | exact absurd f Bool.false_ne_true | exact absurd f2 Bool.false_ne_true
theorem any_of {K : Fg} {G : Hp} {u : V} {d : PD} (h2 : DR K G u d) (f2 : flatP d = true) : ∀ {vs : List V} {ds : List PD}, DRs K G vs ds → ds.all flatP = true → inV u vs = ds.any fun e => PyData.eqv e d
  | _, _, .nil, _ => rfl
  | _, _, .cons h r, f => by
    rw [List.all_cons, Bool.and_eq_true] at f
    have ih := any_of h2 f2 r f.2
    unfold inV at ih ⊢
    rw [List.any_cons, List.any_cons, eqV_of h h2 f.1 f2, ih]
def rInS (neg : Bool) : R2 := fun x y H Q => ∃ (c : Nat) (z : Str), x = .str ⟨#[c]⟩ ∧ y = .str z ∧ Q (.bl (if neg = true then !decide (c ∈ z.cps.toList) else decide (c ∈ z.cps.toList))) H
theorem op_inU : OpR X (compareOp .In) (rOr (rIn X.K false) (rInS false)) := opR_or op_in_seq op_in_sign
theorem op_ninU : OpR X (compareOp .NotIn) (rOr (rIn X.K true) (rInS true)) := opR_or op_notIn_seq op_notIn_sign
theorem str_one {x : Str} (h : x.cps.size = 1) : x = ⟨#[x.cps.getD 0 0]⟩ := by
  obtain ⟨⟨l⟩⟩ := x
  match l, h with
  | [c], _ => rfl
theorem in_both {neg : Bool} {w : Wd} {G H : Hp} {B : Bag} {x y : V} {d e : PD} {b : Bool} {Q : VK} (o : Ok w G H B) (dx : DR X.K G x d) (dy : DR X.K G y e) (hz : inP d e = some b) (k : Q (.bl (if neg = true then !b else b)) H) : rOr (rIn X.K neg) (rInS neg) x y H Q := by
  unfold inP at hz
  split at hz
  · obtain ⟨h1, rfl⟩ := some_if hz
    cases dx; cases dy
    rename_i x z
    exact .inr ⟨x.cps.getD 0 0, z, by rw [← str_one h1], rfl, k⟩
  · obtain ⟨⟨f1, f2⟩, rfl⟩ := some_if hz
    cases dy with
    | lst hy r =>
      refine .inl ⟨_, _, rfl, .inl (subL o.sub hy), flat_of dx f1, flats_of r f2, ?_⟩
      rw [any_of dx f1 r f2]
      exact k
  · obtain ⟨⟨f1, f2⟩, rfl⟩ := some_if hz
    cases dy with
    | tup hy r =>
      refine .inl ⟨_, _, rfl, .inr (subT o.sub hy), flat_of dx f1, flats_of r f2, ?_⟩
      rw [any_of dx f1 r f2]
      exact k
  · cases hz
theorem opC_in : OpC X (rOr (rIn X.K false) (rInS false)) inP := fun w G H B x y d e b Q o dx dy hz k => in_both o dx dy hz k
theorem opC_nin : OpC X (rOr (rIn X.K true) (rInS true)) ninP := by
  intro w G H B x y d e b Q o dx dy hz k
  unfold ninP at hz
  cases q : inP d e with
  | none => rw [q] at hz; cases hz
  | some c =>
    rw [q] at hz
    have hz : some (!c) = some b := hz
    cases hz
    exact in_both (neg := true) o dx dy q k
/-! ### is None -/
def isNo : PD → Bool
  | .none => true
  | _ => false
def isNoneP : PD → PD → Option Bool
  | d, .none => some (isNo d)
  | _, _ => none
def notNoneP (d e : PD) : Option Bool := (isNoneP d e).map (!·)
theorem none_of {K : Fg} {G : Hp} {v : V} {d : PD} (h : DR K G v d) : decide (v = .non) = isNo d := by
  cases h <;> rfl
theorem opC_is : OpC X (fun x y H Q => y = .non ∧ Q (.bl (decide (x = .non))) H) isNoneP := by
  intro w G H B x y d e b Q o dx dy hz k
  cases e with
  | none =>
    cases dy
    cases hz
    exact ⟨rfl, by rw [none_of dx]; exact k⟩
  | _ => cases hz
theorem opC_isnot : OpC X (fun x y H Q => y = .non ∧ Q (.bl (!decide (x = .non))) H) notNoneP := by
  intro w G H B x y d e b Q o dx dy hz k
  cases e with
  | none =>
    cases dy
    cases hz
    exact ⟨rfl, by rw [none_of dx]; exact k⟩
  | _ => cases hz

/-! ### subscripts, slices -/
def ixP : PD → PD → Option PD
  | .list xs, .int i => atI xs i
  | .tuple xs, .int i => atI xs i
  | .str z, .int i => if z.length ≤ sizeLine then (atI z.cps.toList i).map fun c => .str ⟨#[c]⟩ else none
  | _, _ => none
theorem atI_of {K : Fg} {G : Hp} {vs : List V} {ds : List PD} {i : Int} {d : PD} (r : DRs K G vs ds) (h : atI ds i = some d) : ∃ v, atI vs i = some v ∧ DR K G v d := by
  unfold atI at h ⊢
  rw [r.length]
  cases e : ixN ds.length i with
  | none => rw [e] at h; cases h
  | some j =>
    rw [e] at h
    obtain ⟨v, h1, h2⟩ := r.get (show ds[j]? = some d from h)
    exact ⟨v, h1, h2⟩
theorem opD_ix : OpD X (rIx X.K) ixP := by
  intro w G H B x y d e z Q o dx dy hz k
  unfold ixP at hz
  split at hz
  · cases dy
    cases dx with
    | lst hx r =>
      obtain ⟨v, h1, h2⟩ := atI_of r hz
      exact .inl ⟨_, _, _, v, rfl, rfl, subL o.sub hx, h1, k v G H Step.refl o h2⟩
  · cases dy
    cases dx with
    | tup hx r =>
      obtain ⟨v, h1, h2⟩ := atI_of r hz
      exact .inr (.inl ⟨_, _, _, v, rfl, rfl, subT o.sub hx, h1, k v G H Step.refl o h2⟩)
  · cases dy; cases dx
    rename_i z i
    by_cases hl : z.length ≤ sizeLine
    · rw [if_pos hl] at hz
      cases q : atI z.cps.toList i with
      | none => rw [q] at hz; cases hz
      | some c =>
        rw [q] at hz
        cases hz
        exact .inr (.inr ⟨z, i, c, rfl, rfl, hl, q, k _ G H Step.refl o (.str _)⟩)
    · rw [if_neg hl] at hz; cases hz
  · cases hz
theorem ed_ix {a b : Expr} {ta tb : TE} {ma mb : EnvM → Bag → Res PD} {pos : Pos} (ha : ED X W a ta ma) (hb : ED X W b tb mb) (hs : PlainIx b := by exact fun _ _ => rfl) : ED X W (.Subscript a b pos) (tOp (rIx X.K) ta tb) (mOp ixP ma mb) := by
  obtain ⟨pa, ra⟩ := ha
  obtain ⟨pb, rb⟩ := hb
  refine ⟨pe_ix ix_seq pa pb hs, fun w G0 H0 σ env G H B Q R h => ?_⟩
  refine two (a := a) (b := b) ra rb R h fun x y B2 vx vy G2 H2 s o dx dy h2 => ?_
  cases e : ixP x y with
  | none => rw [e] at h2; exact h2.elim
  | some z =>
    rw [e] at h2
    exact opD_ix w G2 H2 B2 vx vy x y z Q o dx dy e h2
/-- a part of a slice -/
structure OD (X : Cx) (W : WX) (e : Option Expr) (t : TO) (m : EnvM → Bag → Res (Option Int)) : Prop where
  pe : PO X e t
  sem : ∀ (w : Wd) (G0 H0 : Hp) (σ : L2.St) (env : EnvM) (G H : Hp) (B : Bag) (Q : Option Int → Hp → Prop), Rel X.K w G0 H0 σ env G H B →
    PostR X.K X.mg w G H (fun _ i j => i = j) (m env B) Q (fun c d H' => W c d σ H') → t σ H Q
def mNoPart : EnvM → Bag → Res (Option Int) := fun _ B => .ok none B
def mPart (m : EnvM → Bag → Res PD) : EnvM → Bag → Res (Option Int) := fun env B => (m env B).bind fun x B1 => match x with
  | .int i => .ok (some i) B1
  | _ => .bad
theorem od_none : OD X W none tNoPart mNoPart := ⟨po_none, fun w G0 H0 σ env G H B Q R h => h none G H Step.refl R.ok rfl⟩
theorem od_some {e : Expr} {t : TE} {m : EnvM → Bag → Res PD} (h : ED X W e t m) : OD X W (some e) (tPart t) (mPart m) := by
  obtain ⟨p, r⟩ := h
  refine ⟨po_some p, fun w G0 H0 σ env G H B Q R h => ?_⟩
  refine r w G0 H0 σ env G H B _ R (PostR.bind h fun x B1 v G1 H1 s1 o1 d1 h1 => ?_)
  cases x with
  | int i => exact ⟨i, d1.int_inv, h1 (some i) G1 H1 Step.refl o1 rfl⟩
  | _ => exact (show False from h1).elim
def cutP {α : Type} (xs : List α) (lo hi : Option Int) : List α := (xs.drop (HT.sIx xs.length 0 lo)).take (HT.sIx xs.length xs.length hi - HT.sIx xs.length 0 lo)
def sliceP (d : PD) (lo hi : Option Int) : Option PD := match d with
  | .list xs => some (.list (cutP xs lo hi))
  | .tuple xs => some (.tuple (cutP xs lo hi))
  | .str z => if z.length ≤ sizeLine then some (.str (cutS z lo hi)) else none
  | _ => none
theorem DRs.cut {K : Fg} {G : Hp} {vs : List V} {ds : List PD} (lo hi : Option Int) (r : DRs K G vs ds) : DRs K G (cutV vs lo hi) (cutP ds lo hi) := by
  unfold cutV cutP
  rw [r.length]
  exact (r.drop _).take _
def rSlU (K : Fg) : V → Option Int → Option Int → Hp → VK → Prop := fun x lo hi H Q => rSlL K x lo hi H Q ∨ (fun x lo hi H Q => ZT.rSlP K x lo hi H Q ∨ rSlS x lo hi H Q) x lo hi H Q
theorem sl_U : SlR X (rSlU X.K) := sl_list.or (ZT.sl_tupP.or sl_str)
def mSl (ma : EnvM → Bag → Res PD) (ml mh : EnvM → Bag → Res (Option Int)) : EnvM → Bag → Res PD := fun env B => (ma env B).bind fun x B1 => (ml env B1).bind fun lo B2 => (mh env B2).bind fun hi B3 => match sliceP x lo hi with
  | some z => .ok z B3
  | none => .bad
theorem ed_slice {e : Expr} {lo hi : Option Expr} {t : TE} {tl th : TO} {m : EnvM → Bag → Res PD} {ml mh : EnvM → Bag → Res (Option Int)} {pos p2 : Pos} (he : ED X W e t m) (hl : OD X W lo tl ml) (hh : OD X W hi th mh) :
    ED X W (.Subscript e (.Slice lo hi none p2) pos) (tSl (rSlU X.K) t tl th) (mSl m ml mh) := by
  obtain ⟨p, r⟩ := he
  obtain ⟨pl, rl⟩ := hl
  obtain ⟨ph, rh⟩ := hh
  refine ⟨pe_slice sl_U p pl ph, fun w G0 H0 σ env G H B Q R h => ?_⟩
  refine r w G0 H0 σ env G H B _ R (PostR.bind h fun x B1 v G1 H1 s1 o1 d1 h1 => ?_)
  refine rl w G0 H0 σ env G1 H1 B1 _ (R.step s1 o1) (PostR.bind h1 fun l B2 l' G2 H2 s2 o2 e2 h2 => ?_)
  subst e2
  refine rh w G0 H0 σ env G2 H2 B2 _ ((R.step s1 o1).step s2 o2) (PostR.bind h2 fun u B3 u' G3 H3 s3 o3 e3 h3 => ?_)
  subst e3
  have d3 := (d1.mono s2.exG).mono s3.exG
  unfold sliceP at h3
  cases x with
  | list xs =>
    cases d3 with
    | lst hx rx => exact .inl ⟨_, _, rfl, subL o3.sub hx, fun p hp => h3 _ _ _ (Step.new o3.sub hp) (o3.new hp) (.lst upd_same ((rx.cut l' u').mono (new_sub o3.sub hp)))⟩
  | tuple xs =>
    cases d3 with
    | tup hx rx =>
      rename_i a vs
      refine .inr (.inl ⟨_, _, rfl, subT o3.sub hx, fun hw => ?_, fun hw p ob hp hd => h3 _ _ _ (Step.new o3.sub hp) (o3.new hp) (.tup (PT.new hd) ((rx.cut l' u').mono (new_sub o3.sub hp)))⟩)
      refine h3 _ _ _ Step.refl o3 (.tup hx ?_)
      have q := rx.cut l' u'
      unfold cutV at q
      rw [hw.1, hw.2, List.drop_zero, Nat.sub_zero, List.take_length] at q
      exact q
  | str z =>
    have e := d3.str_inv
    subst e
    by_cases hl : z.length ≤ sizeLine
    · simp only [if_pos hl] at h3
      exact .inr (.inr ⟨z, rfl, hl, h3 _ _ _ Step.refl o3 (.str _)⟩)
    · simp only [if_neg hl] at h3
      exact h3.elim
  | _ => exact (show False from h3).elim

/-! ### built-in calls -/
def CaD (X : Cx) (r : List V → Hp → VK → Prop) (g : List PD → Option PD) : Prop := ∀ (w : Wd) (G H : Hp) (B : Bag) (vs : List V) (ds : List PD) (z : PD) (Q : VK), Ok w G H B → DRs X.K G vs ds → g ds = some z →
  (∀ (v : V) (G' H' : Hp), Step w G H G' H' → Ok w G' H' B → DR X.K G' v z → Q v H') → r vs H Q
def mCa (g : List PD → Option PD) (m : EnvM → Bag → Res (List SV)) : EnvM → Bag → Res PD := fun env B => (m env B).bind fun ss B1 => match (unD ss).bind g with
  | some z => .ok z B1
  | none => .bad
theorem ca_sem {es : List Expr} {t : TA} {m : EnvM → Bag → Res (List SV)} {r : List V → Hp → VK → Prop} {g : List PD → Option PD} (hd : CaD X r g) (ha : AD X W es t m) (w : Wd) (G0 H0 : Hp) (σ : L2.St) (env : EnvM) (G H : Hp) (B : Bag) (Q : VK)
    (R : Rel X.K w G0 H0 σ env G H B) (h : PostE X.K X.mg w G H (mCa g m env B) Q (fun c d H' => W c d σ H')) : tCB r t σ H Q := by
  refine ha.sem w G0 H0 σ env G H B _ R (PostR.bind h fun ss B1 vs G1 H1 s1 o1 d1 h1 => ?_)
  cases e : unD ss with
  | none => rw [e] at h1; exact h1.elim
  | some ds =>
    rw [e] at h1
    have h1 : PostE X.K X.mg w G1 H1 (match g ds with | some z => .ok z B1 | none => .bad) Q (fun c d H' => W c d σ H') := h1
    cases e2 : g ds with
    | none => rw [e2] at h1; exact h1.elim
    | some z =>
      rw [e2] at h1
      exact hd w G1 H1 B1 vs ds z Q o1 (d1.un e) e2 h1
theorem ed_ca {id : String} {x : Str} {e : Expr} {es : List Expr} {p pos : Pos} {t : TA} {m : EnvM → Bag → Res (List SV)} {r : List V → Hp → VK → Prop} {g : List PD → Option PD} (hc : CallR X (.builtin id) r) (hd : CaD X r g) (hm : X.mg x = none) (hv : bootBuiltins x = some (.builtin id)) (ha : AD X W (e :: es) t m)
    (hg : Gl X x := by rfl) (hn : x ≠ "__name__" := by decide) (hdb : (x == ("__debug__" : Str)) = false := by decide)
    (he : starEach (e :: es) X.env = (false, eval e X.env) :: starEach es X.env := by rfl) (hpl : (backTo pos (starEach es X.env)).any (·.1) = false := by rfl) : ED X W (.Call (.Name x p) (e :: es) [] pos) (tCB r t) (mCa g m) :=
  ⟨pe_callB hc hg hm hv ha.pe hn hdb he hpl, ca_sem hd ha⟩
theorem ed_ct {T : String} {x : Str} {e : Expr} {es : List Expr} {p pos : Pos} {t : TA} {m : EnvM → Bag → Res (List SV)} {r : List V → Hp → VK → Prop} {g : List PD → Option PD} (hc : CallR X (.type T) r) (hd : CaD X r g) (hm : X.mg x = none) (hv : bootBuiltins x = some (.type T)) (ha : AD X W (e :: es) t m)
    (hg : Gl X x := by rfl) (hn : x ≠ "__name__" := by decide) (hdb : (x == ("__debug__" : Str)) = false := by decide)
    (he : starEach (e :: es) X.env = (false, eval e X.env) :: starEach es X.env := by rfl) (hpl : (backTo pos (starEach es X.env)).any (·.1) = false := by rfl) : ED X W (.Call (.Name x p) (e :: es) [] pos) (tCB r t) (mCa g m) :=
  ⟨pe_callTy hc hg hm hv ha.pe hn hdb he hpl, ca_sem hd ha⟩
def lenP : List PD → Option PD
  | [.str x] => if x.length ≤ sizeLine then some (.int (x.length : Int)) else none
  | [.list xs] => some (.int (xs.length : Int))
  | [.tuple xs] => some (.int (xs.length : Int))
  | _ => none
theorem DRs.one {K : Fg} {G : Hp} {vs : List V} {d : PD} (r : DRs K G vs [d]) : ∃ v, vs = [v] ∧ DR K G v d := by
  cases r with
  | cons h t =>
    cases t
    exact ⟨_, rfl, h⟩
theorem ca_len : CaD X (fun xs H Q => ∃ x n, xs = [x] ∧ LenV X.K x H n ∧ Q (.int n) H) lenP := by
  intro w G H B vs ds z Q o r hz k
  unfold lenP at hz
  split at hz
  · obtain ⟨hl, rfl⟩ := some_if hz
    obtain ⟨v, rfl, d⟩ := r.one
    cases d
    exact ⟨_, _, rfl, ⟨hl, rfl⟩, k _ G H Step.refl o (.int _)⟩
  · cases hz
    obtain ⟨v, rfl, d⟩ := r.one
    cases d with
    | lst hx q => exact ⟨_, _, rfl, .inl ⟨_, subL o.sub hx, rfl⟩, by rw [q.length]; exact k _ G H Step.refl o (.int _)⟩
  · cases hz
    obtain ⟨v, rfl, d⟩ := r.one
    cases d with
    | tup hx q => exact ⟨_, _, rfl, .inr ⟨_, subT o.sub hx, rfl⟩, by rw [q.length]; exact k _ G H Step.refl o (.int _)⟩
  · cases hz
def absP : List PD → Option PD
  | [.int i] => some (.int (if i < 0 then -i else i))
  | _ => none
theorem ca_abs : CaD X (fun xs H Q => ∃ i, xs = [.int i] ∧ Q (.int (if i < 0 then -i else i)) H) absP := by
  intro w G H B vs ds z Q o r hz k
  unfold absP at hz
  split at hz
  · cases hz
    obtain ⟨v, rfl, d⟩ := r.one
    cases d
    exact ⟨_, rfl, k _ G H Step.refl o (.int _)⟩
  · cases hz
def intP : List PD → Option PD
  | [.int i] => some (.int i)
  | [.bool b] => some (.int (if b then 1 else 0))
  | _ => none
theorem ca_int : CaD X (fun xs H Q => (∃ i, xs = [.int i] ∧ Q (.int i) H) ∨ ∃ k, xs = [.bl k] ∧ Q (.int (if k then 1 else 0)) H) intP := by
  intro w G H B vs ds z Q o r hz k
  unfold intP at hz
  split at hz
  · cases hz
    obtain ⟨v, rfl, d⟩ := r.one
    cases d
    exact .inl ⟨_, rfl, k _ G H Step.refl o (.int _)⟩
  · cases hz
    obtain ⟨v, rfl, d⟩ := r.one
    cases d
    exact .inr ⟨_, rfl, k _ G H Step.refl o (.int _)⟩
  · cases hz
def listP : List PD → Option PD
  | [.list xs] => some (.list xs)
  | [.tuple xs] => some (.list xs)
  | _ => none
theorem ca_list : CaD X (fun xs H Q => ∃ p ys, xs = [.ref p] ∧ (SqL X.K H p ys ∨ SqT X.K H p ys) ∧ ∀ l, H l = none → Q (.ref l) (upd H l (.lst ys))) listP := by
  intro w G H B vs ds z Q o r hz k
  unfold listP at hz
  split at hz
  · cases hz
    obtain ⟨v, rfl, d⟩ := r.one
    cases d with
    | lst hx q => exact ⟨_, _, rfl, .inl (subL o.sub hx), fun l hl => k _ _ _ (Step.new o.sub hl) (o.new hl) (.lst upd_same (q.mono (new_sub o.sub hl)))⟩
  · cases hz
    obtain ⟨v, rfl, d⟩ := r.one
    cases d with
    | tup hx q => exact ⟨_, _, rfl, .inr (subT o.sub hx), fun l hl => k _ _ _ (Step.new o.sub hl) (o.new hl) (.lst upd_same (q.mono (new_sub o.sub hl)))⟩
  · cases hz
def tupleP : List PD → Option PD
  | [.list xs] => some (.tuple xs)
  | [.tuple xs] => some (.tuple xs)
  | _ => none
theorem ca_tuple : CaD X (ZT.rTupleP X.K) tupleP := by
  intro w G H B vs ds z Q o r hz k
  unfold tupleP at hz
  split at hz
  · cases hz
    obtain ⟨v, rfl, d⟩ := r.one
    cases d with
    | lst hx q => exact ⟨_, _, rfl, .inl ⟨subL o.sub hx, fun l ob hl hd => k _ _ _ (Step.new o.sub hl) (o.new hl) (.tup (PT.new hd) (q.mono (new_sub o.sub hl)))⟩⟩
  · cases hz
    obtain ⟨v, rfl, d⟩ := r.one
    cases d with
    | tup hx q => exact ⟨_, _, rfl, .inr ⟨subT o.sub hx, k _ G H Step.refl o (.tup hx q)⟩⟩
  · cases hz
def unI : List PD → Option (List Int)
  | [] => some []
  | .int i :: r => (unI r).map (i :: ·)
  | _ :: _ => none
theorem unI_eq : ∀ {ds : List PD} {ns : List Int}, unI ds = some ns → ds = ns.map PyData.int
  | [], ns, h => by cases h; rfl
  | d :: r, ns, h => by
    cases d with
    | int i =>
      unfold unI at h
      cases q : unI r with
      | none => rw [q] at h; cases h
      | some t =>
        rw [q] at h
        cases h
        rw [unI_eq q]
        rfl
    | _ => cases h
theorem unI_map (ns : List Int) : unI (ns.map PyData.int) = some ns := by
  induction ns with
  | nil => rfl
  | cons n r ih =>
    rw [List.map_cons]
    unfold unI
    rw [ih]
    rfl
def unBo : List PD → Option (List Bool)
  | [] => some []
  | .bool i :: r => (unBo r).map (i :: ·)
  | _ :: _ => none
theorem unBo_eq : ∀ {ds : List PD} {ns : List Bool}, unBo ds = some ns → ds = ns.map PyData.bool
  | [], ns, h => by cases h; rfl
  | d :: r, ns, h => by
    cases d with
    | bool i =>
      unfold unBo at h
      cases q : unBo r with
      | none => rw [q] at h; cases h
      | some t =>
        rw [q] at h
        cases h
        rw [unBo_eq q]
        rfl
    | _ => cases h
theorem unBo_map (ns : List Bool) : unBo (ns.map PyData.bool) = some ns := by
  induction ns with
  | nil => rfl
  | cons n r ih =>
    rw [List.map_cons]
    unfold unBo
    rw [ih]
    rfl
def onInts (f : List Int → Option PD) : List PD → Option PD
  | [.list xs] => (unI xs).bind f
  | _ => none
def onBools (f : List Bool → Option PD) : List PD → Option PD
  | [.list xs] => (unBo xs).bind f
  | _ => none
theorem onInts_inv {f : List Int → Option PD} {ds : List PD} {z : PD} (h : onInts f ds = some z) : ∃ ns, ds = [.list (ns.map PyData.int)] ∧ f ns = some z := by
  unfold onInts at h
  split at h
  · rename_i xs
    cases q : unI xs with
    | none => rw [q] at h; cases h
    | some ns =>
      rw [q] at h
      exact ⟨ns, by rw [unI_eq q], h⟩
  · cases h
theorem onBools_inv {f : List Bool → Option PD} {ds : List PD} {z : PD} (h : onBools f ds = some z) : ∃ ns, ds = [.list (ns.map PyData.bool)] ∧ f ns = some z := by
  unfold onBools at h
  split at h
  · rename_i xs
    cases q : unBo xs with
    | none => rw [q] at h; cases h
    | some ns =>
      rw [q] at h
      exact ⟨ns, by rw [unBo_eq q], h⟩
  · cases h
def sumP : List PD → Option PD := onInts fun ns => some (.int ns.sum)
def allP : List PD → Option PD := onBools fun bs => some (.bool (bs.all id))
def anyP : List PD → Option PD := onBools fun bs => some (.bool (bs.any id))
def sortI (ns : List Int) : List Int := ns.mergeSort fun i j => decide (i ≤ j)
def sortedP : List PD → Option PD := onInts fun ns => some (.list ((sortI ns).map PyData.int))
theorem ca_sum : CaD X (rSum X.K) sumP := by
  intro w G H B vs ds z Q o r hz k
  unfold sumP at hz
  obtain ⟨ns, rfl, hz2⟩ := onInts_inv hz
  cases hz2
  obtain ⟨v, rfl, d⟩ := r.one
  cases d with
  | lst hx q =>
    have e := q.of_ints
    subst e
    exact ⟨_, _, rfl, subL o.sub hx, k _ G H Step.refl o (.int _)⟩
theorem ca_all : CaD X (rAll X.K) allP := by
  intro w G H B vs ds z Q o r hz k
  unfold allP at hz
  obtain ⟨ns, rfl, hz2⟩ := onBools_inv hz
  cases hz2
  obtain ⟨v, rfl, d⟩ := r.one
  cases d with
  | lst hx q =>
    have e := q.of_bools
    subst e
    exact ⟨_, _, rfl, subL o.sub hx, k _ G H Step.refl o (.bl _)⟩
theorem ca_any : CaD X (rAny X.K) anyP := by
  intro w G H B vs ds z Q o r hz k
  unfold anyP at hz
  obtain ⟨ns, rfl, hz2⟩ := onBools_inv hz
  cases hz2
  obtain ⟨v, rfl, d⟩ := r.one
  cases d with
  | lst hx q =>
    have e := q.of_bools
    subst e
    exact ⟨_, _, rfl, subL o.sub hx, k _ G H Step.refl o (.bl _)⟩
theorem sortI_only {ns ns' : List Int} (p : ns'.Perm ns) (s : ns'.Pairwise (· ≤ ·)) : ns' = sortI ns := by
  have h1 : (sortI ns).Pairwise (· ≤ ·) := by
    have q := List.pairwise_mergeSort (le := fun i j : Int => decide (i ≤ j)) (fun a b c h1 h2 => by simp only [decide_eq_true_eq] at *; omega) (fun a b => by simp only [Bool.or_eq_true, decide_eq_true_eq]; omega) ns
    exact q.imp fun h => of_decide_eq_true h
  have h2 : (sortI ns).Perm ns := List.mergeSort_perm ns _
  exact List.Perm.eq_of_pairwise (fun a b _ _ h1 h2 => Int.le_antisymm h1 h2) s h1 (p.trans h2.symm)
theorem ca_sorted : CaD X (rSortedI X.K) sortedP := by
  intro w G H B vs ds z Q o r hz k
  unfold sortedP at hz
  obtain ⟨ns, rfl, hz2⟩ := onInts_inv hz
  cases hz2
  obtain ⟨v, rfl, d⟩ := r.one
  cases d with
  | lst hx q =>
    have e := q.of_ints
    subst e
    refine ⟨_, _, rfl, subL o.sub hx, fun ns' p hp hs hn => ?_⟩
    have e2 := sortI_only hp hs
    subst e2
    exact k _ _ _ (Step.new o.sub hn) (o.new hn) (.lst upd_same (DRs.ints _))
end
end DL
set_option Elab.async false
set_option linter.all false
set_option maxRecDepth 100000
set_option maxHeartbeats 2000000
/-! DL3: slots, targets, statements, loops, defs. -/
namespace DL
open PySem L2
open ZT (PT)
theorem Sub.refl (G : Hp) : Sub G G := fun _ _ h => h
theorem Sub.trans {A B C : Hp} (h : Sub A B) (k : Sub B C) : Sub A C := fun a o q => k a o (h a o q)
/-! ### the slots change -/
section
variable {K : Fg} {w : Wd} {G0 H0 : Hp} {σ : L2.St} {env : EnvM} {G H G' H' : Hp} {B B' : Bag} {v : V} {sv : SV}
theorem Rel.put (R : Rel K w G0 H0 σ env G H B) (i : Nat) {o : Option SV} {u : Option V} (h : ∀ sv, o = some sv → ∃ v, u = some v ∧ SR K w H0 G H v sv)
    (hd : ∀ sv, o = some sv → sv.isOwn = true → ∀ (j : Nat) (sj : SV) (p : Addr), i ≠ j → env[j]? = some (some sj) → sj.isOwn = true → u = some (.ref p) → σ[j]? ≠ some (some (.ref p))) :
    Rel K w G0 H0 (σ.set i u) (env.set i o) G H B := by
  have hl := R.len
  refine ⟨R.ok, R.ent, by rw [List.length_set, List.length_set]; exact hl, fun j sv e => ?_, fun j k si sk p hjk e1 o1 e2 o2 s1 s2 => ?_, R.wk⟩
  · by_cases hj : i = j
    · subst hj
      by_cases hi : i < env.length
      · rw [List.getElem?_set_self hi] at e
        obtain ⟨v, e2, q⟩ := h sv (Option.some.inj e)
        exact ⟨v, by rw [List.getElem?_set_self (by omega), e2], q⟩
      · rw [List.getElem?_eq_none (by rw [List.length_set]; omega)] at e
        cases e
    · rw [List.getElem?_set_ne hj] at e ⊢
      exact R.slot j sv e
  · by_cases hj : i = j
    · subst hj
      have hi : i < env.length := by
        have q := (List.getElem?_eq_some_iff.mp e1).1
        rw [List.length_set] at q
        exact q
      rw [List.getElem?_set_self hi] at e1
      rw [List.getElem?_set_self (by omega)] at s1
      rw [List.getElem?_set_ne hjk] at e2 s2
      exact hd si (Option.some.inj e1) o1 k sk p hjk e2 o2 (Option.some.inj s1) s2
    · rw [List.getElem?_set_ne hj] at e1 s1
      by_cases hk : i = k
      · subst hk
        have hi : i < env.length := by
          have q := (List.getElem?_eq_some_iff.mp e2).1
          rw [List.length_set] at q
          exact q
        rw [List.getElem?_set_self hi] at e2
        rw [List.getElem?_set_self (by omega)] at s2
        exact hd sk (Option.some.inj e2) o2 j si p (fun z => hjk z.symm) e1 o1 (Option.some.inj s2) s1
      · rw [List.getElem?_set_ne hk] at e2 s2
        exact R.dist j k si sk p hjk e1 o1 e2 o2 s1 s2
theorem Rel.set (R : Rel K w G0 H0 σ env G H B) (i : Nat) {d : PD} (h : DR K G v d) : Rel K w G0 H0 (σ.set i (some v)) (env.set i (some (.d d))) G H B :=
  R.put i (fun sv e => by cases e; exact ⟨v, rfl, h⟩) fun sv e o => by cases e; cases o
theorem Rel.drop (R : Rel K w G0 H0 σ env G H B) (i : Nat) (u : Option V) : Rel K w G0 H0 (σ.set i u) (env.set i none) G H B :=
  R.put i (fun sv e => by cases e) fun sv e => by cases e
def wipeE (env : EnvM) : List Nat → EnvM
  | [] => env
  | v :: vs => (wipeE env vs).set v none
theorem Rel.wipe (R : Rel K w G0 H0 σ env G H B) : ∀ vs : List Nat, Rel K w G0 H0 (wipe σ vs) (wipeE env vs) G H B
  | [] => R
  | v :: vs => (Rel.wipe R vs).drop v none
end
theorem wipe_ne {σ : L2.St} {i : Nat} {o : Option V} : ∀ {vs : List Nat}, i ∉ vs → wipe (σ.set i o) vs = (wipe σ vs).set i o
  | [], _ => rfl
  | v :: vs, h => by
    have h1 : i ≠ v := fun e => h (by rw [e]; exact List.mem_cons_self)
    have h2 : i ∉ vs := fun e => h (List.mem_cons_of_mem _ e)
    show (wipe (σ.set i o) vs).set v none = ((wipe σ vs).set v none).set i o
    rw [wipe_ne h2, List.set_comm _ _ h1]
theorem wipe_set {σ : L2.St} {i : Nat} {o : Option V} : ∀ {vs : List Nat}, i ∈ vs → wipe (σ.set i o) vs = wipe σ vs
  | [], h => by cases h
  | v :: vs, h => by
    show (wipe (σ.set i o) vs).set v none = (wipe σ vs).set v none
    by_cases h2 : i ∈ vs
    · rw [wipe_set h2]
    · have e : i = v := by
        rcases List.mem_cons.mp h with e | e
        · exact e
        · exact absurd e h2
      subst e
      rw [wipe_ne h2, List.set_set]
/-! ### targets -/
structure GT (X : Cx) (st : Bool) (tg : Expr) (g : TG) (mg : PD → EnvM → Option EnvM) (js : List Nat) : Prop where
  pg : PG X tg g
  sem : ∀ (w : Wd) (G0 H0 : Hp) (σ : L2.St) (env : EnvM) (G H : Hp) (B : Bag) (v : V) (d : PD) (env' : EnvM) (Q : L2.St → Hp → Prop), Rel X.K w G0 H0 σ env G H B → DRb X.K G st v d → mg d env = some env' →
    (∀ σ' : L2.St, Rel X.K w G0 H0 σ' env' G H B → (∀ vs : List Nat, (∀ j ∈ js, j ∈ vs) → wipe σ' vs = wipe σ vs) → Q σ' H) → g v σ H Q
structure GTs (X : Cx) (ts : List Expr) (g : TGs) (mg : List PD → EnvM → Option EnvM) (js : List Nat) : Prop where
  pg : PGs X ts g
  sem : ∀ (w : Wd) (G0 H0 : Hp) (σ : L2.St) (env : EnvM) (G H : Hp) (B : Bag) (vs : List V) (ds : List PD) (env' : EnvM) (Q : L2.St → Hp → Prop), Rel X.K w G0 H0 σ env G H B → DRs X.K G vs ds → mg ds env = some env' →
    (∀ σ' : L2.St, Rel X.K w G0 H0 σ' env' G H B → (∀ us : List Nat, (∀ j ∈ js, j ∈ us) → wipe σ' us = wipe σ us) → Q σ' H) → g vs σ H Q
section
variable {X : Cx} {W : WX}
def mgName (i : Nat) : PD → EnvM → Option EnvM := fun d env => some (env.set i (some (.d d)))
theorem gt_name (i : Nat) {x : Str} {pos : Pos} (hN : X.N.Nodup) (hi : X.N[i]? = some x := by rfl) (hx : Loc X.env.scope x := by first | exact Or.inl rfl | exact Or.inr rfl) (hf : X.fn x = true ∨ X.env.scope.names.lookup x = some .local := by first | exact .inl rfl | exact .inr rfl) : GT X true (.Name x pos) (gName i) (mgName i) [i] := by
  refine ⟨pg_name hN hi hx hf, fun w G0 H0 σ env G H B v d env' Q R h e k => ?_⟩
  cases e
  exact k _ (R.set i h) fun vs hv => wipe_set (hv i List.mem_cons_self)
def mgNil : List PD → EnvM → Option EnvM := fun ds env => match ds with
  | [] => some env
  | _ => none
def mgCons (a : PD → EnvM → Option EnvM) (r : List PD → EnvM → Option EnvM) : List PD → EnvM → Option EnvM := fun ds env => match ds with
  | d :: ds => (a d env).bind (r ds)
  | [] => none
theorem gts_nil : GTs X [] gNil mgNil [] := by
  refine ⟨pgs_nil, fun w G0 H0 σ env G H B vs ds env' Q R h e k => ?_⟩
  cases ds with
  | nil =>
    cases h
    cases e
    exact ⟨rfl, k σ R fun _ _ => rfl⟩
  | cons d ds => cases e
theorem gts_cons {e : Expr} {es : List Expr} {g : TG} {gs : TGs} {ma : PD → EnvM → Option EnvM} {mr : List PD → EnvM → Option EnvM} {js ks : List Nat} (h1 : GT X true e g ma js) (h2 : GTs X es gs mr ks)
    (hs : (assignEach (e :: es) X.env).map (·.2) = assign e X.env :: (assignEach es X.env).map (·.2) := by rfl) : GTs X (e :: es) (gCons g gs) (mgCons ma mr) (js ++ ks) := by
  refine ⟨pgs_cons h1.pg h2.pg hs, fun w G0 H0 σ env G H B vs ds env' Q R h e k => ?_⟩
  cases ds with
  | nil => cases e
  | cons d ds =>
    cases h with
    | cons hd hr =>
      rename_i v vs
      have e : (ma d env).bind (mr ds) = some env' := e
      cases q : ma d env with
      | none => rw [q] at e; cases e
      | some env1 =>
        rw [q] at e
        refine ⟨v, vs, rfl, h1.sem w G0 H0 σ env G H B v d env1 _ R hd q fun σ1 R1 w1 => ?_⟩
        refine h2.sem w G0 H0 σ1 env1 G H B vs ds env' _ R1 hr e fun σ2 R2 w2 => k σ2 R2 fun us hu => ?_
        rw [w2 us fun j hj => hu j (List.mem_append_right _ hj), w1 us fun j hj => hu j (List.mem_append_left _ hj)]
def mgTup (r : List PD → EnvM → Option EnvM) (n : Nat) : PD → EnvM → Option EnvM := fun d env => match d with
  | .tuple ds => if ds.length = n then r ds env else none
  | _ => none
theorem sqT_sub {K : Fg} {G G' : Hp} {a : Addr} {xs : List V} (e : Sub G G') (h : SqT K G a xs) : SqT K G' a xs := by
  rcases h with (h | ⟨o, h⟩) | h
  · exact .inl (.inl (e _ _ h))
  · exact .inl (.inr ⟨o, e _ _ h⟩)
  · exact .inr h
theorem gt_tup {st : Bool} {es : List Expr} {k : Nat} {g : TGs} {mr : List PD → EnvM → Option EnvM} {js : List Nat} {n : Nat} {pos : Pos} (hc : X.calm = true) (h : GTs X es g mr js)
    (hn : (assignEach es X.env).length = n := by rfl) (hst : (assignEach es X.env).findIdx? (·.1) = none := by rfl) : GT X st (.Tuple es k pos) (gTup X.K n g) (mgTup mr n) js := by
  refine ⟨pg_tup hc h.pg hn hst, fun w G0 H0 σ env G H B v d env' Q R hd e k => ?_⟩
  cases d with
  | tuple ds =>
    have e : (if ds.length = n then mr ds env else none) = some env' := e
    by_cases hl : ds.length = n
    · rw [if_pos hl] at e
      obtain ⟨a, xs, e1, hx, r⟩ := hd.tup
      exact ⟨a, xs, e1, sqT_sub R.ok.sub hx, by rw [r.length]; exact hl, h.sem w G0 H0 σ env G H B _ ds env' Q R r e k⟩
    · rw [if_neg hl] at e; cases e
  | _ => cases e

/-! ### statements -/
def Res.s {α : Type} (r : Res α) (env : EnvM) (k : α → Bag → SRes) : SRes := match r with
  | .ok a B => k a B
  | .exc c as B => .exc c as env B
  | .bad => .bad
theorem PostS.bind {α β : Type} {K : Fg} {mg : Str → Option Value} {w : Wd} {G0 H0 G H Gs : Hp} {Ra : Hp → β → α → Prop} {r : Res α} {f : α → Bag → SRes} {Q1 : β → Hp → Prop} {D : Ends} {W : WX} {σ : L2.St} {env : EnvM} {B0 : Bag} (R : Rel K w G0 H0 σ env G H B0) (hs : Sub Gs G)
    (h : PostS K mg w G0 H0 Gs W D (r.s env f)) (k : ∀ a B' v G' H', Step w G H G' H' → Ok w G' H' B' → Ra G' v a → PostS K mg w G0 H0 Gs W D (f a B') → Q1 v H') : PostR K mg w G H Ra r Q1 (fun c d H' => W c d σ H') := by
  cases r with
  | ok a B => exact fun v G2 H2 s2 o d => k a B v G2 H2 s2 o d h
  | exc c as B => exact fun cls dd fs G' H' m s o d f => h σ cls dd fs G' H' m (R.step s o) (Sub.trans hs s.exG) d f
  | bad => exact h
def mSkip : EnvM → Bag → SRes := fun env B => .nx env B
def mSeq (a b : EnvM → Bag → SRes) : EnvM → Bag → SRes := fun env B => match a env B with
  | .nx env1 B1 => b env1 B1
  | r => r
theorem sds_nil : SDs X W [] tNext mSkip := ⟨pss_nil, fun w G0 H0 σ env G H B D R h => h σ G H R (Sub.refl G)⟩
theorem sds_cons {st : Stmt} {rest : List Stmt} {t u : TS} {a b : EnvM → Bag → SRes} (h1 : SD X W st t a) (h2 : SDs X W rest u b) : SDs X W (st :: rest) (tSeq t u) (mSeq a b) := by
  refine ⟨pss_cons h1.pe h2.pe, fun w G0 H0 σ env G H B D R h => ?_⟩
  refine h1.sem w G0 H0 σ env G H B _ R ?_
  unfold mSeq at h
  cases e : a env B with
  | nx env1 B1 =>
    rw [e] at h
    exact fun σ' G' H' R' s' => h2.sem w G0 H0 σ' env1 G' H' B1 D R' (h.sub s')
  | bk env1 B1 => rw [e] at h; exact h
  | ct env1 B1 => rw [e] at h; exact h
  | ret d B1 => rw [e] at h; exact h
  | exc c as e1 B1 => rw [e] at h; exact h
  | bad => rw [e] at h; exact h
theorem sds_one {st : Stmt} {t : TS} {a : EnvM → Bag → SRes} (h1 : SD X W st t a) : SDs X W [st] t a := ⟨pss_one h1.pe, h1.sem⟩
def mSet (g : PD → EnvM → Option EnvM) (m : EnvM → Bag → Res PD) : EnvM → Bag → SRes := fun env B => (m env B).s env fun d B1 => match g d env with
  | some env1 => .nx env1 B1
  | none => .bad
/-- x = e -/
theorem sd_set (i : Nat) {x : Str} {e : Expr} {t : TE} {m : EnvM → Bag → Res PD} {pos pos' : Pos} (hN : X.N.Nodup) (he : ED X W e t m) (hi : X.N[i]? = some x := by rfl) (hx : Loc X.env.scope x := by first | exact Or.inl rfl | exact Or.inr rfl)
    (hs : swapsWith e (some (.Name x pos')) pos.line X.env = pure false := by rfl) (hf : X.fn x = true ∨ X.env.scope.names.lookup x = some .local := by first | exact .inl rfl | exact .inr rfl) :
    SD X W (.Assign [.Name x pos'] e pos) (tAsg t (gName i)) (mSet (mgName i) m) := by
  refine ⟨ps_set hN hi hx he.pe hs hf, fun w G0 H0 σ env G H B D R h => ?_⟩
  refine he.sem w G0 H0 σ env G H B _ R (PostS.bind R (Sub.refl _) h fun d B1 v G1 H1 s1 o1 d1 h1 => ?_)
  exact h1 _ G1 H1 ((R.step s1 o1).set i d1) s1.exG
/-- target = e -/
theorem sd_asg {tg e : Expr} {t : TE} {g : TG} {m : EnvM → Bag → Res PD} {mg : PD → EnvM → Option EnvM} {js : List Nat} {pos : Pos} (he : ED X W e t m) (hg : GT X true tg g mg js) (hs : swapsWithSole [tg] e pos.line X.env = pure false := by rfl) (hw : swappedStores [tg] e X.env = pure none := by rfl)
    (h1 : (assignEach [tg] X.env).map (·.2) = [assign tg X.env] := by rfl) : SD X W (.Assign [tg] e pos) (tAsg t g) (mSet mg m) := by
  refine ⟨ps_asg he.pe hg.pg hs hw h1, fun w G0 H0 σ env G H B D R h => ?_⟩
  refine he.sem w G0 H0 σ env G H B _ R (PostS.bind R (Sub.refl _) h fun d B1 v G1 H1 s1 o1 d1 h1 => ?_)
  cases q : mg d env with
  | none => simp only [q] at h1; exact h1.elim
  | some env1 =>
    simp only [q] at h1
    exact hg.sem w G0 H0 σ env G1 H1 B1 v d env1 _ (R.step s1 o1) d1 q fun σ' R' _ => h1 σ' G1 H1 R' s1.exG
/-- a, b = e1, e2 -/
def mPar (i j : Nat) (m : EnvM → Bag → Res (List SV)) : EnvM → Bag → SRes := fun env B => (m env B).s env fun ss B1 => match unD ss with
  | some [d, e] => .nx ((env.set i (some (.d d))).set j (some (.d e))) B1
  | _ => .bad
theorem sd_par (i j : Nat) {x y : Str} {a b : Expr} {ta : TA} {m : EnvM → Bag → Res (List SV)} {px py pt pos : Pos} {kt k2 pt2} (hc : X.calm = true) (hN : X.N.Nodup) (ha : AD X W [a, b] ta m) (hi : X.N[i]? = some x := by rfl) (hj : X.N[j]? = some y := by rfl) (hij : i ≠ j := by decide)
    (hx : X.env.scope.names.lookup x = some .local := by rfl) (hy : X.env.scope.names.lookup y = some .local := by rfl)
    (hw : swappedStores [.Tuple [.Name x px, .Name y py] kt pt] (.Tuple [a, b] k2 pt2) X.env = pure (some [x, y]) := by rfl)
    (hs : swapsWithSole [.Tuple [.Name x px, .Name y py] kt pt] (.Tuple [a, b] k2 pt2) pos.line X.env = pure false := by rfl) :
    SD X W (.Assign [.Tuple [.Name x px, .Name y py] kt pt] (.Tuple [a, b] k2 pt2) pos) (tPar i j ta) (mPar i j m) := by
  refine ⟨ps_par hc hN hi hj hij hx hy ha.pe hw hs, fun w G0 H0 σ env G H B D R h => ?_⟩
  refine ha.sem w G0 H0 σ env G H B _ R (PostS.bind R (Sub.refl _) h fun ss B1 vs G1 H1 s1 o1 d1 h1 => ?_)
  cases e : unD ss with
  | none => simp only [e] at h1; exact h1.elim
  | some ds =>
    have q := d1.un e
    match ds, e, q with
    | [], e, q => simp only [e] at h1; exact h1.elim
    | [_], e, q => simp only [e] at h1; exact h1.elim
    | [d, d'], e, .cons hd (.cons hd' .nil) =>
      simp only [e] at h1
      exact ⟨_, _, rfl, h1 _ G1 H1 (((R.step s1 o1).set i hd).set j hd') s1.exG⟩
    | _ :: _ :: _ :: _, e, q => simp only [e] at h1; exact h1.elim
/-- return e -/
def mRet (m : EnvM → Bag → Res PD) : EnvM → Bag → SRes := fun env B => (m env B).s env fun d B1 => .ret d B1
theorem sd_ret {e : Expr} {t : TE} {m : EnvM → Bag → Res PD} {pos : Pos} (he : ED X W e t m) : SD X W (.Return (some e) pos) (tRet t) (mRet m) := by
  refine ⟨ps_ret he.pe, fun w G0 H0 σ env G H B D R h => ?_⟩
  refine he.sem w G0 H0 σ env G H B _ R (PostS.bind R (Sub.refl _) h fun d B1 v G1 H1 s1 o1 d1 h1 => ?_)
  exact h1 v G1 H1 (R.ent.trans s1) o1 d1
def mRetN : EnvM → Bag → SRes := fun _ B => .ret .none B
theorem sd_retN {pos : Pos} : SD X W (.Return none pos) tRetN mRetN := ⟨ps_retN, fun w G0 H0 σ env G H B D R h => h .non G H R.ent R.ok .non⟩
theorem sd_pass {pos : Pos} : SD X W (.Pass pos) tNext mSkip := ⟨ps_pass, fun w G0 H0 σ env G H B D R h => h σ G H R (Sub.refl G)⟩
def mBreak : EnvM → Bag → SRes := fun env B => .bk env B
def mCont : EnvM → Bag → SRes := fun env B => .ct env B
theorem sd_break {pos : Pos} : SD X W (.Break pos) tBreak mBreak := ⟨ps_break, fun w G0 H0 σ env G H B D R h => h σ G H R (Sub.refl G)⟩
theorem sd_cont {pos : Pos} : SD X W (.Continue pos) tCont mCont := ⟨ps_continue, fun w G0 H0 σ env G H B D R h => h σ G H R (Sub.refl G)⟩
/-- e -/
def mDrop (m : EnvM → Bag → Res PD) : EnvM → Bag → SRes := fun env B => (m env B).s env fun _ B1 => .nx env B1
theorem sd_expr {e : Expr} {t : TE} {m : EnvM → Bag → Res PD} {pos : Pos} (he : ED X W e t m) (hs : swapsWith e none pos.line X.env = pure false := by rfl) : SD X W (.Expr e pos) (tDrop t) (mDrop m) := by
  refine ⟨ps_expr he.pe hs, fun w G0 H0 σ env G H B D R h => ?_⟩
  refine he.sem w G0 H0 σ env G H B _ R (PostS.bind R (Sub.refl _) h fun d B1 v G1 H1 s1 o1 d1 h1 => ?_)
  exact h1 σ G1 H1 (R.step s1 o1) s1.exG
/-- if -/
def mIf (c : EnvM → Bag → Res Bool) (a b : EnvM → Bag → SRes) : EnvM → Bag → SRes := fun env B => (c env B).s env fun k B1 => if k = true then a env B1 else b env B1
theorem sd_if {c : Expr} {a b : List Stmt} {tc : TT} {t u : TS} {mc : EnvM → Bag → Res Bool} {ma mb : EnvM → Bag → SRes} {pos : Pos} (hc : TD X W c tc mc) (ha : SDs X W a t ma) (hb : SDs X W b u mb) : SD X W (.If c a b pos) (tIfS tc t u) (mIf mc ma mb) := by
  refine ⟨ps_if hc.pe ha.pe hb.pe, fun w G0 H0 σ env G H B D R h => ?_⟩
  refine hc.sem w G0 H0 σ env G H B _ R (PostS.bind R (Sub.refl _) h fun k B1 v G1 H1 s1 o1 d1 h1 => ?_)
  subst d1
  cases v with
  | true => exact iteT (ha.sem w G0 H0 σ env G1 H1 B1 D (R.step s1 o1) (PostS.sub s1.exG h1))
  | false => exact iteF (hb.sem w G0 H0 σ env G1 H1 B1 D (R.step s1 o1) (PostS.sub s1.exG h1))
/-- x += e, ints -/
def mAug (i : Nat) (f : Int → Int → Int) (m : EnvM → Bag → Res PD) : EnvM → Bag → SRes := fun env B => match env[i]? with
  | some (some (.d (.int a))) => (m env B).s env fun d B1 => match d with
    | .int b => .nx (env.set i (some (.d (.int (f a b))))) B1
    | _ => .bad
  | _ => .bad
theorem sd_aug (i : Nat) {x : Str} {e : Expr} {t : TE} {m : EnvM → Bag → Res PD} {op : Operator} {f : Int → Int → Int} {pos pos' : Pos} (hN : X.N.Nodup) (ho : PIp X op (ipI f)) (he : ED X W e t m) (hi : X.N[i]? = some x := by rfl) (hx : Loc X.env.scope x := by first | exact Or.inl rfl | exact Or.inr rfl)
    (hf : X.fn x = true ∨ X.env.scope.names.lookup x = some .local := by first | exact .inl rfl | exact .inr rfl) :
    SD X W (.AugAssign (.Name x pos') op e pos) (tAug i t (ipI f)) (mAug i f m) := by
  refine ⟨ps_aug hN hi hx he.pe ho hf, fun w G0 H0 σ env G H B D R h => ?_⟩
  unfold mAug at h
  split at h
  · rename_i a q
    obtain ⟨v, h1, h2⟩ := R.slot i _ q
    have e := DR.int_inv h2
    subst e
    refine ⟨_, h1, ?_⟩
    refine he.sem w G0 H0 σ env G H B _ R (PostS.bind R (Sub.refl _) h fun d B1 v G1 H1 s1 o1 d1 h1 => ?_)
    cases d with
    | int b => exact ⟨a, b, rfl, d1.int_inv, h1 _ G1 H1 ((R.step s1 o1).set i (.int _)) s1.exG⟩
    | _ => exact (show False from h1).elim
  · exact h.elim

/-! ### what is walked -/
structure Walks (K : Fg) (st : Bool) (J : It) (G : Hp) (ds : List PD) : Prop where
  go : ∀ (i : Nat) (H : Hp) (d : PD), Sub G H → ds[i]? = some d → J.go i H
  yld : ∀ (i : Nat) (w : Wd) (G' H : Hp) (B : Bag) (x : V) (H' : Hp) (d : PD), Ok w G' H B → Sub G G' → ds[i]? = some d → J.yld i H x H' → ∃ G2, Step w G' H G2 H' ∧ Ok w G2 H' B ∧ DRb K G2 st x d
  stop : ∀ (i : Nat) (H : Hp), Sub G H → ds.length ≤ i → J.stop i H
theorem Walks.list {K : Fg} {G : Hp} {a : Addr} {vs : List V} {ds : List PD} (h : G a = some (.lst vs)) (r : DRs K G vs ds) : Walks K true (Itl K a) G ds where
  go := fun i H d hs e => let ⟨v, h1, _⟩ := r.get e; ⟨vs, v, subL hs h, h1⟩
  yld := fun i w G' H B x H' d o hs e y => by
    obtain ⟨e1, y⟩ := y
    subst e1
    obtain ⟨v, h1, h2⟩ := r.get e
    have h3 := y vs (subL o.sub (hs _ _ h))
    rw [h1] at h3
    cases h3
    exact ⟨G', Step.refl, o, h2.mono hs⟩
  stop := fun i H hs e => ⟨vs, subL hs h, by rw [r.length]; exact e⟩
theorem Walks.tuple {K : Fg} {G : Hp} {a : Addr} {vs : List V} {ds : List PD} (h : PT K G a vs) (r : DRs K G vs ds) : Walks K true (Itt K a) G ds where
  go := fun i H d hs e => let ⟨v, h1, _⟩ := r.get e; ⟨vs, v, subT hs h, h1⟩
  yld := fun i w G' H B x H' d o hs e y => by
    obtain ⟨e1, y⟩ := y
    subst e1
    obtain ⟨v, h1, h2⟩ := r.get e
    have h3 := y vs (subT o.sub (sbPT hs h))
    rw [h1] at h3
    cases h3
    exact ⟨G', Step.refl, o, h2.mono hs⟩
  stop := fun i H hs e => ⟨vs, subT hs h, by rw [r.length]; exact e⟩
def rangeP (lo : Int) (n : Nat) : List PD := (List.range n).map fun i : Nat => .int (lo + (i : Int))
theorem rangeP_get {lo : Int} {n i : Nat} {d : PD} (h : (rangeP lo n)[i]? = some d) : i < n ∧ d = .int (lo + (i : Int)) := by
  unfold rangeP at h
  rw [List.getElem?_map] at h
  cases e : (List.range n)[i]? with
  | none => rw [e] at h; cases h
  | some j =>
    rw [e] at h
    obtain ⟨h1, h2⟩ := List.getElem?_eq_some_iff.mp e
    rw [List.length_range] at h1
    rw [List.getElem_range] at h2
    subst h2
    exact ⟨h1, by cases h; rfl⟩
theorem rangeP_len (lo : Int) (n : Nat) : (rangeP lo n).length = n := by
  unfold rangeP
  rw [List.length_map, List.length_range]
theorem Walks.range {K : Fg} {G : Hp} {lo : Int} {n : Nat} : Walks K true (Itr lo n) G (rangeP lo n) where
  go := fun i H d hs e => (rangeP_get e).1
  yld := fun i w G' H B x H' d o hs e y => by
    obtain ⟨e1, y⟩ := y
    subst e1
    obtain ⟨_, h2⟩ := rangeP_get e
    subst h2
    subst y
    exact ⟨G', Step.refl, o, .int _⟩
  stop := fun i H hs e => by rw [rangeP_len] at e; exact e
structure WI (X : Cx) (W : WX) (st : Bool) (tg iter : Expr) (wi : TI) (m : EnvM → Bag → Res (List PD)) : Prop where
  pe : PI X tg iter wi
  sem : ∀ (w : Wd) (G0 H0 : Hp) (σ : L2.St) (env : EnvM) (G H : Hp) (B : Bag) (Q : It → Hp → Prop), Rel X.K w G0 H0 σ env G H B →
    PostR X.K X.mg w G H (fun G' J ds => Walks X.K st J G' ds) (m env B) Q (fun c d H' => W c d σ H') → wi σ H Q
def mSeqOf (m : EnvM → Bag → Res PD) : EnvM → Bag → Res (List PD) := fun env B => (m env B).bind fun d B1 => match d with
  | .list ds => .ok ds B1
  | .tuple ds => .ok ds B1
  | _ => .bad
theorem pi_or {tg iter : Expr} {w1 w2 : TI} (h1 : PI X tg iter w1) (h2 : PI X tg iter w2) : PI X tg iter (fun σ H R => w1 σ H R ∨ w2 σ H R) :=
  ⟨fun pins s σ H R I h => by
    rcases h with h | h
    · exact h1.run pins s σ H R I h
    · exact h2.run pins s σ H R I h⟩
/-- over a list or a tuple -/
theorem wi_seq {tg e : Expr} {t : TE} {m : EnvM → Bag → Res PD} (h : ED X W e t m) : WI X W true tg e (fun σ H R => iList X.K t σ H R ∨ iTup X.K t σ H R) (mSeqOf m) := by
  refine ⟨pi_or (pi_list h.pe) (pi_tup h.pe), fun w G0 H0 σ env G H B Q R hp => ?_⟩
  unfold mSeqOf at hp
  cases e : m env B with
  | ok d B1 =>
    rw [e] at hp
    have mk : ∀ Q1 : VK, (∀ v G' H', Step w G H G' H' → Ok w G' H' B1 → DR X.K G' v d → Q1 v H') → PostE X.K X.mg w G H (m env B) Q1 (fun c d H' => W c d σ H') := fun Q1 k => by
      rw [e]
      exact k
    cases d with
    | list ds =>
      left
      refine h.sem w G0 H0 σ env G H B _ R (mk _ fun v G' H' s o dv => ?_)
      cases dv with
      | lst hx r => exact ⟨_, rfl, ⟨_, subL o.sub hx⟩, hp _ G' H' s o (Walks.list hx r)⟩
    | tuple ds =>
      right
      refine h.sem w G0 H0 σ env G H B _ R (mk _ fun v G' H' s o dv => ?_)
      cases dv with
      | tup hx r => exact ⟨_, rfl, ⟨_, subT o.sub hx⟩, hp _ G' H' s o (Walks.tuple hx r)⟩
    | _ => exact (show False from hp).elim
  | exc c as B1 =>
    rw [e] at hp
    left
    refine h.sem w G0 H0 σ env G H B _ R ?_
    rw [e]
    exact hp
  | bad => rw [e] at hp; exact hp.elim
def mRange1 (m : EnvM → Bag → Res (List SV)) : EnvM → Bag → Res (List PD) := fun env B => (m env B).bind fun ss B1 => match unD ss with
  | some [.int j] => if -(2 ^ 62) ≤ j ∧ j < 2 ^ 62 then .ok (rangeP 0 j.toNat) B1 else .bad
  | _ => .bad
def mRange2 (m : EnvM → Bag → Res (List SV)) : EnvM → Bag → Res (List PD) := fun env B => (m env B).bind fun ss B1 => match unD ss with
  | some [.int i, .int j] => if -(2 ^ 62) ≤ i ∧ i < 2 ^ 62 ∧ -(2 ^ 62) ≤ j ∧ j < 2 ^ 62 then .ok (rangeP i (j - i).toNat) B1 else .bad
  | _ => .bad
theorem wi_range1 {tg a : Expr} {ta : TA} {m : EnvM → Bag → Res (List SV)} {p pos : Pos} (hm : X.mg "range" = none) (ha : AD X W [a] ta m) (hg : Gl X "range" := by rfl) (hs : starEach [a] X.env = [(false, eval a X.env)] := by rfl) : WI X W true tg (.Call (.Name "range" p) [a] [] pos) (iRng1 ta) (mRange1 m) := by
  refine ⟨pi_range1 hg hm ha.pe hs, fun w G0 H0 σ env G H B Q R h => ?_⟩
  refine ha.sem w G0 H0 σ env G H B _ R (PostR.bind h fun ss B1 vs G1 H1 s1 o1 d1 h1 => ?_)
  split at h1
  · rename_i j e
    have q := d1.un e
    obtain ⟨v, rfl, dv⟩ := q.one
    cases dv
    by_cases hc : -(2 ^ 62) ≤ j ∧ j < 2 ^ 62
    · rw [if_pos hc] at h1
      exact ⟨j, rfl, hc.1, hc.2, h1 _ G1 H1 Step.refl o1 Walks.range⟩
    · rw [if_neg hc] at h1; exact h1.elim
  · exact h1.elim
theorem wi_range2 {tg a b : Expr} {ta : TA} {m : EnvM → Bag → Res (List SV)} {p pos : Pos} (hm : X.mg "range" = none) (ha : AD X W [a, b] ta m) (hg : Gl X "range" := by rfl) (hs : starEach [a, b] X.env = [(false, eval a X.env), (false, eval b X.env)] := by rfl) (hs2 : starEach [b] X.env = [(false, eval b X.env)] := by rfl) : WI X W true tg (.Call (.Name "range" p) [a, b] [] pos) (iRng2 ta) (mRange2 m) := by
  refine ⟨pi_range2 hg hm ha.pe hs hs2, fun w G0 H0 σ env G H B Q R h => ?_⟩
  refine ha.sem w G0 H0 σ env G H B _ R (PostR.bind h fun ss B1 vs G1 H1 s1 o1 d1 h1 => ?_)
  split at h1
  · rename_i i j e
    have q := d1.un e
    match vs, q with
    | _, .cons di (.cons dj .nil) =>
      cases di; cases dj
      by_cases hc : -(2 ^ 62) ≤ i ∧ i < 2 ^ 62 ∧ -(2 ^ 62) ≤ j ∧ j < 2 ^ 62
      · rw [if_pos hc] at h1
        exact ⟨i, j, rfl, hc, h1 _ G1 H1 Step.refl o1 Walks.range⟩
      · rw [if_neg hc] at h1; exact h1.elim
  · exact h1.elim

/-! ### for -/
def mLoop (g : PD → EnvM → Option EnvM) (body : EnvM → Bag → SRes) : List PD → EnvM → Bag → SRes
  | [], env, B => .nx env B
  | d :: ds, env, B => match g d env with
    | none => .bad
    | some env1 => match body env1 B with
      | .nx env2 B2 => mLoop g body ds env2 B2
      | .ct env2 B2 => mLoop g body ds env2 B2
      | .bk env2 B2 => .nx env2 B2
      | .ret d B2 => .ret d B2
      | .exc c as e2 B2 => .exc c as e2 B2
      | .bad => .bad
def mFor (src : EnvM → Bag → Res (List PD)) (g : PD → EnvM → Option EnvM) (body : EnvM → Bag → SRes) : EnvM → Bag → SRes := fun env B => (src env B).s env fun ds B1 => mLoop g body ds env B1
theorem sd_for {st : Bool} {iter tg : Expr} {body : List Stmt} {wi : TI} {g : TG} {tb : TS} {mi : EnvM → Bag → Res (List PD)} {mg : PD → EnvM → Option EnvM} {js : List Nat} {mb : EnvM → Bag → SRes} {pos : Pos} (hp : PassesOwn (model X.prog X.w) X.A X.env X.xe) (hc : X.calm = true)
    (hi : WI X W st tg iter wi mi) (hg : GT X st tg g mg js) (hb : SDs X W body tb mb) (hs : ∀ x, foldedSetIterable iter X.env x = pure x := by intro _; rfl) : SD X W (.For tg iter body [] pos) (tFor wi g tb) (mFor mi mg mb) := by
  refine ⟨ps_for hp hc hi.pe hg.pg hb.pe hs, fun w G0 H0 σ env G H B D R h => ?_⟩
  refine hi.sem w G0 H0 σ env G H B _ R (PostS.bind R (Sub.refl _) h fun ds B1 J G1 H1 s1 o1 wk h1 => ?_)
  have R1 := R.step s1 o1
  refine ⟨fun i m σ H => m = ds.length - i ∧ i ≤ ds.length ∧ ∃ env G' B, Rel X.K w G0 H0 σ env G' H B ∧ Sub G1 G' ∧ PostS X.K X.mg w G0 H0 G' W D (mLoop mg mb (ds.drop i) env B), ⟨ds.length, by simp, Nat.zero_le _, env, G1, B1, R1, Sub.refl _, PostS.sub s1.exG h1⟩, ?_⟩
  rintro i m σ2 H2 ⟨rfl, hi, env2, G2, B2, R2, e2, p2⟩
  by_cases hlt : i < ds.length
  · right
    have hd : ds[i]? = some ds[i] := by simp [hlt]
    refine ⟨wk.go i H2 _ (Sub.trans e2 R2.ok.sub) hd, fun σ' H' => ∃ env' G' B', Rel X.K w G0 H0 σ' env' G' H' B' ∧ Sub G1 G' ∧ PostS X.K X.mg w G0 H0 G' W D (mLoop mg mb (ds.drop (i + 1)) env' B'), fun σ' H' ⟨env', G', B', R', e', p'⟩ => ⟨ds.length - (i + 1), by omega, rfl, hlt, env', G', B', R', e', p'⟩, fun x H3 y => ?_⟩
    obtain ⟨G3, s3, o3, d3⟩ := wk.yld i w G2 H2 B2 x H3 _ R2.ok e2 hd y
    rw [List.drop_eq_getElem_cons hlt] at p2
    have p2 := PostS.sub s3.exG p2
    unfold mLoop at p2
    cases q : mg ds[i] env2 with
    | none => rw [q] at p2; exact p2.elim
    | some env3 =>
      rw [q] at p2
      refine hg.sem w G0 H0 σ2 env2 G3 H3 B2 x _ env3 _ (R2.step s3 o3) d3 q fun σ4 R4 _ => ?_
      refine hb.sem w G0 H0 σ4 env3 G3 H3 B2 _ R4 ?_
      cases z : mb env3 B2 with
      | nx env4 B4 => simp only [z] at p2; exact fun σ' G' H' R' s' => ⟨env4, G', B4, R', Sub.trans (Sub.trans e2 s3.exG) s', PostS.sub s' p2⟩
      | ct env4 B4 => simp only [z] at p2; exact fun σ' G' H' R' s' => ⟨env4, G', B4, R', Sub.trans (Sub.trans e2 s3.exG) s', PostS.sub s' p2⟩
      | bk env4 B4 => simp only [z] at p2; exact fun σ' G' H' R' s' => p2 σ' G' H' R' s'
      | ret d B4 => simp only [z] at p2; exact p2
      | exc c as e4 B4 => simp only [z] at p2; exact p2
      | bad => simp only [z] at p2; exact p2.elim
  · left
    have e : i = ds.length := by omega
    subst e
    rw [List.drop_length] at p2
    exact ⟨wk.stop _ H2 (Sub.trans e2 R2.ok.sub) (Nat.le_refl _), p2 σ2 G2 H2 R2 (Sub.refl _)⟩

/-! ### while -/
def mWh (c : EnvM → Bag → Res Bool) (body : EnvM → Bag → SRes) : Nat → EnvM → Bag → SRes
  | 0, _, _ => .bad
  | n + 1, env, B => (c env B).s env fun k B1 => if k = true then (match body env B1 with
      | .nx env2 B2 => mWh c body n env2 B2
      | .ct env2 B2 => mWh c body n env2 B2
      | .bk env2 B2 => .nx env2 B2
      | .ret d B2 => .ret d B2
      | .exc c as e2 B2 => .exc c as e2 B2
      | .bad => .bad) else .nx env B1
theorem mWh_more {c : EnvM → Bag → Res Bool} {body : EnvM → Bag → SRes} : ∀ (n : Nat) (env : EnvM) (B : Bag), mWh c body n env B ≠ .bad → mWh c body (n + 1) env B = mWh c body n env B
  | 0, _, _, h => absurd rfl h
  | n + 1, env, B, h => by
    rw [mWh] at h
    rw [mWh, mWh.eq_2 c body env B n]
    cases e : c env B with
    | ok k B1 =>
      rw [e] at h
      simp only [Res.s] at h ⊢
      by_cases hk : k = true
      · rw [if_pos hk] at h
        rw [if_pos hk, if_pos hk]
        cases z : body env B1 with
        | nx env2 B2 =>
          rw [z] at h
          exact mWh_more n env2 B2 h
        | ct env2 B2 =>
          rw [z] at h
          exact mWh_more n env2 B2 h
        | bk env2 B2 => rfl
        | ret d B2 => rfl
        | exc c as B2 => rfl
        | bad => rfl
      · rw [if_neg hk, if_neg hk]
    | exc c as B1 => rfl
    | bad => rfl
theorem mWh_le {c : EnvM → Bag → Res Bool} {body : EnvM → Bag → SRes} {n m : Nat} {env : EnvM} {B : Bag} (h : mWh c body n env B ≠ .bad) (hl : n ≤ m) : mWh c body m env B = mWh c body n env B := by
  induction hl with
  | refl => rfl
  | step _ ih => rw [mWh_more _ env B (by rw [ih]; exact h), ih]
open Classical in
noncomputable def mWhile (c : EnvM → Bag → Res Bool) (body : EnvM → Bag → SRes) : EnvM → Bag → SRes := fun env B => if h : ∃ n, mWh c body n env B ≠ .bad then mWh c body h.choose env B else .bad
theorem mWhile_at {c : EnvM → Bag → Res Bool} {body : EnvM → Bag → SRes} {n : Nat} {env : EnvM} {B : Bag} (h : mWh c body n env B ≠ .bad) : mWhile c body env B = mWh c body n env B := by
  have hx : ∃ n, mWh c body n env B ≠ .bad := ⟨n, h⟩
  unfold mWhile
  rw [dif_pos hx]
  rcases Nat.le_total n hx.choose with l | l
  · exact mWh_le h l
  · exact (mWh_le hx.choose_spec l).symm
theorem mWhile_of {c : EnvM → Bag → Res Bool} {body : EnvM → Bag → SRes} {env : EnvM} {B : Bag} (h : mWhile c body env B ≠ .bad) : ∃ n, mWh c body n env B ≠ .bad ∧ mWhile c body env B = mWh c body n env B := by
  unfold mWhile at h
  by_cases hx : ∃ n, mWh c body n env B ≠ .bad
  · exact ⟨hx.choose, hx.choose_spec, mWhile_at hx.choose_spec⟩
  · rw [dif_neg hx] at h; exact absurd rfl h
/-- one turn more -/
theorem mWhile_end {c : EnvM → Bag → Res Bool} {body : EnvM → Bag → SRes} {env : EnvM} {B B1 : Bag} (h : c env B = .ok false B1) : mWhile c body env B = .nx env B1 := by
  have e : mWh c body 1 env B = .nx env B1 := by
    rw [mWh, h]
    rfl
  rw [mWhile_at (n := 1) (by rw [e]; exact fun z => by cases z), e]
theorem mWhile_turn {c : EnvM → Bag → Res Bool} {body : EnvM → Bag → SRes} {env env2 : EnvM} {B B1 B2 : Bag} (h : c env B = .ok true B1) (hb : body env B1 = .nx env2 B2) (h2 : mWhile c body env2 B2 ≠ .bad) : mWhile c body env B = mWhile c body env2 B2 := by
  obtain ⟨n, h3, h4⟩ := mWhile_of h2
  have e : mWh c body (n + 1) env B = mWh c body n env2 B2 := by
    rw [mWh, h]
    simp only [Res.s, if_true, hb]
  rw [mWhile_at (n := n + 1) (by rw [e]; exact h3), e, h4]
theorem mWhile_ret {c : EnvM → Bag → Res Bool} {body : EnvM → Bag → SRes} {env : EnvM} {B B1 B2 : Bag} {d : PD} (h : c env B = .ok true B1) (hb : body env B1 = .ret d B2) : mWhile c body env B = .ret d B2 := by
  have e : mWh c body 1 env B = .ret d B2 := by
    rw [mWh, h]
    simp only [Res.s, if_true, hb]
  rw [mWhile_at (n := 1) (by rw [e]; exact fun z => by cases z), e]
theorem sd_while {c : Expr} {body : List Stmt} {tc : TT} {tb : TS} {mc : EnvM → Bag → Res Bool} {mb : EnvM → Bag → SRes} {pos : Pos} (hp : PassesOwn (model X.prog X.w) X.A X.env X.xe) (hc : TD X W c tc mc) (hb : SDs X W body tb mb) : SD X W (.While c body [] pos) (tWhile tc tb) (mWhile mc mb) := by
  refine ⟨ps_while hp hc.pe hb.pe, fun w G0 H0 σ env G H B D R h => ?_⟩
  have hn : mWhile mc mb env B ≠ .bad := fun e => by rw [e] at h; exact h
  obtain ⟨n, _, e⟩ := mWhile_of hn
  rw [e] at h
  refine ⟨fun m σ H => ∃ env G' B, Rel X.K w G0 H0 σ env G' H B ∧ PostS X.K X.mg w G0 H0 G' W D (mWh mc mb m env B), ⟨n, env, G, B, R, h⟩, ?_⟩
  rintro m σ2 H2 ⟨env2, G2, B2, R2, p2⟩
  cases m with
  | zero => exact (show False from p2).elim
  | succ m =>
    rw [mWh] at p2
    refine hc.sem w G0 H0 σ2 env2 G2 H2 B2 _ R2 (PostS.bind R2 (Sub.refl _) p2 fun k B3 v G3 H3 s3 o3 d3 h3 => ?_)
    subst d3
    have h3 := PostS.sub s3.exG h3
    cases v with
    | false => exact iteF (h3 σ2 G3 H3 (R2.step s3 o3) (Sub.refl _))
    | true =>
      refine iteT ⟨fun σ' H' => ∃ env G' B, Rel X.K w G0 H0 σ' env G' H' B ∧ PostS X.K X.mg w G0 H0 G' W D (mWh mc mb m env B), fun σ' H' q => ⟨m, Nat.lt_succ_self m, q⟩, ?_⟩
      refine hb.sem w G0 H0 σ2 env2 G3 H3 B3 _ (R2.step s3 o3) ?_
      rw [if_pos rfl] at h3
      cases z : mb env2 B3 with
      | nx env4 B4 => simp only [z] at h3; exact fun σ' G' H' R' s' => ⟨env4, G', B4, R', PostS.sub s' h3⟩
      | ct env4 B4 => simp only [z] at h3; exact fun σ' G' H' R' s' => ⟨env4, G', B4, R', PostS.sub s' h3⟩
      | bk env4 B4 => simp only [z] at h3; exact fun σ' G' H' R' s' => h3 σ' G' H' R' s'
      | ret d B4 => simp only [z] at h3; exact h3
      | exc c as e4 B4 => simp only [z] at h3; exact h3
      | bad => simp only [z] at h3; exact h3.elim
end
end DL
set_option Elab.async false
set_option linter.all false
set_option maxRecDepth 100000
set_option maxHeartbeats 2000000
/-! ZL: list(zip(a, b)) of two lists or of two tuples of one length: a new list of new pairs. -/
namespace ZL
open PySem
theorem zip_len0 : typeLookup (.type "zip") "__len__" = pure none := by rw [typeLookup_type, builtinLookup_eq_fast]; kernel_rfl
theorem zip_hint0 : typeLookup (.type "zip") "__length_hint__" = pure none := by rw [typeLookup_type, builtinLookup_eq_fast]; kernel_rfl
section
variable {prog : Program} {w : World} {A : Around} {E : Value → Shared → Prop} {s : Shared}
/-! ### next of a zip of tuples whose first pair is still out -/
theorem nextT {z TI TO T i1 i2 l1 l2 : Addr} {f : Bool} {oT : Obj} {k1 k2 : Nat} {xs ys : Array Value} {x y : Value} {Q : Option Value → Shared → Prop} (D : ZipApart z TI TO i1 i2 l1 l2)
    (hz : IsZipHeld s.heap z TI TO T f) (hT : s.heap.get? T = some oT) (hI : IsPair s.heap TI (.ref i1) (.ref i2)) (h1 : s.heap.IsTupleIter i1 l1 k1) (h2 : s.heap.IsTupleIter i2 l2 k2) (g1 : s.heap.IsTuple l1 xs) (g2 : s.heap.IsTuple l2 ys)
    (hx : xs[k1]? = some x) (hy : ys[k2]? = some y)
    (hQ : ∀ h', IsZipHeld h' z TI TO T true → h'.IsTupleIter i1 l1 (k1 + 1) ∧ h'.IsTupleIter i2 l2 (k2 + 1) → IsPair h' s.heap.objs.size x y → (∀ c o, c ≠ z ∧ c ≠ i1 ∧ c ≠ i2 → s.heap.get? c = some o → h'.get? c = some o) → Q (some (.ref s.heap.objs.size)) { s with heap := h' }) :
    wpAny (model prog w) A (pyNext (.ref z)) Q E s := by
  have ty : s.TypeIs (.ref z) "zip" := ⟨_, hz, rfl⟩
  have core : wpAny (model prog w) A.in1 (Builtin.«zip.__next__» ⟨[.ref z], []⟩) (fun fin s' => ∃ v, fin = .done (.ret v) ∧ Q (some v) s') (fun _ _ => False) s := by
    show wpAny _ _ (field (.ref z) 2 >>= _) _ _ _
    refine wpAny_bind (wpAny_field hz rfl (x := .bool false) rfl ?_); show wpAny _ _ (field (.ref z) 3 >>= _) _ _ _
    refine wpAny_bind (wpAny_field hz rfl (x := .ref TI) rfl ?_); refine wpAny_bind (wpAny_seqItems hI rfl ?_)
    show wpAny _ _ (Builtin.SmallTypes.ownedTupleIsFree (.ref z) >>= _) _ _ _
    refine wpAny_bind (wpAny_tupleHeld_zip hz hT fun ha za sa => ?_); simp only [Bool.false_eq_true, if_false]
    refine wpAny_bind ?_; rw [← Array.forIn_toList]; simp only [List.forIn_cons, List.forIn_nil]
    refine wpAny_bind (wpAny_bind (wpAny_holding ?_)); show wpAny _ _ (Builtin.SmallTypes.nextOf (.ref i1) >>= _) _ _ _
    refine wpAny_bind (RZ.nextOf_tuple_item (s := { s with heap := ha }) (h1.extBut sa.extBut D.i1z) (g1.extBut sa.extBut D.l1z) hx fun hb ib sb => wpAny_pure (wpAny_pure ?_))
    refine wpAny_bind (wpAny_bind (wpAny_holding ?_)); show wpAny _ _ (Builtin.SmallTypes.nextOf (.ref i2) >>= _) _ _ _
    refine wpAny_bind (RZ.nextOf_tuple_item (s := { s with heap := hb }) ((h2.extBut sa.extBut D.i2z).extBut sb.extBut D.i12.symm) ((g2.extBut sa.extBut D.l2z).extBut sb.extBut D.l2i1) hy fun hc ic sc => wpAny_pure (wpAny_pure (wpAny_pure ?_)))
    show wpAny _ _ (newTuple [x, y] >>= _) _ _ _
    refine wpAny_bind (wpAny_newTuple ?_)
    have es : hc.objs.size = s.heap.objs.size := by rw [sc.1, sb.1, sa.1]
    have zc : IsZipHeld hc z TI TO T true := sc.extBut _ _ D.i2z.symm (sb.extBut _ _ D.i1z.symm za)
    have kc : ∀ c o, c ≠ z ∧ c ≠ i1 ∧ c ≠ i2 → s.heap.get? c = some o → hc.get? c = some o := fun c o n e => sc.extBut _ _ n.2.2 (sb.extBut _ _ n.2.1 (sa.extBut _ _ n.1 e))
    have jc : hc.IsTupleIter i1 l1 (k1 + 1) := ib.extBut sc.extBut D.i12
    have hp : IsPair (hc.push { cls := .type "tuple", data := .seq #[x, y] }) hc.objs.size x y := Heap.get?_push_size _ rfl
    refine wpAny_pure ⟨_, rfl, ?_⟩
    show Q (some (.ref hc.objs.size)) _
    rw [es] at hp ⊢
    exact (hQ _ (Heap.get?_push_of_some _ zc) ⟨jc.at fun o e => Heap.get?_push_of_some _ e, ic.at fun o e => Heap.get?_push_of_some _ e⟩ hp fun c o n e => Heap.get?_push_of_some _ (kc c o n e))
  unfold pyNext
  exact wpAny_bind (wpAny_attempt (wpAny_callSpecial?_slot (name := Str.ofString "__next__") ty F.slot_zip_next (wpAny_call_entry F.slot_zip_next ty F.entry_zip_next (wpAny_mono core (fun fin s' ⟨v, h, q⟩ => ⟨v, h, wpAny_pure q⟩) fun _ _ q => q.elim) (F.args_zip_next_1 _))))
theorem endT {z TI TO T i1 i2 l1 l2 : Addr} {f : Bool} {oT : Obj} {k1 k2 : Nat} {xs ys : Array Value} {Q : Option Value → Shared → Prop} (hh : A.handled = none) (D : ZipApart z TI TO i1 i2 l1 l2)
    (hz : IsZipHeld s.heap z TI TO T f) (hT : s.heap.get? T = some oT) (hI : IsPair s.heap TI (.ref i1) (.ref i2)) (h1 : s.heap.IsTupleIter i1 l1 k1) (h2 : s.heap.IsTupleIter i2 l2 k2) (g1 : s.heap.IsTuple l1 xs) (g2 : s.heap.IsTuple l2 ys)
    (hx : xs[k1]? = none) (hQ : ∀ h', (∀ c o, c ≠ z ∧ c ≠ i1 ∧ c ≠ i2 → s.heap.get? c = some o → h'.get? c = some o) → Q none { s with heap := h' }) : wpAny (model prog w) A (pyNext (.ref z)) Q E s := by
  have ty : s.TypeIs (.ref z) "zip" := ⟨_, hz, rfl⟩
  have core : wpAny (model prog w) A.in1 (Builtin.«zip.__next__» ⟨[.ref z], []⟩) (fun fin s' => ∃ v, fin = .done (.ret v) ∧ False)
      (fun e s' => ∃ ea h', e = .ref ea ∧ s' = { s with heap := h' } ∧ (∀ c o, c ≠ z ∧ c ≠ i1 ∧ c ≠ i2 → s.heap.get? c = some o → h'.get? c = some o) ∧ ∃ o, h'.get? ea = some o ∧ o.cls = .type "StopIteration") s := by
    show wpAny _ _ (field (.ref z) 2 >>= _) _ _ _
    refine wpAny_bind (wpAny_field hz rfl (x := .bool false) rfl ?_); show wpAny _ _ (field (.ref z) 3 >>= _) _ _ _
    refine wpAny_bind (wpAny_field hz rfl (x := .ref TI) rfl ?_); refine wpAny_bind (wpAny_seqItems hI rfl ?_)
    show wpAny _ _ (Builtin.SmallTypes.ownedTupleIsFree (.ref z) >>= _) _ _ _
    refine wpAny_bind (wpAny_tupleHeld_zip hz hT fun ha za sa => ?_); simp only [Bool.false_eq_true, if_false]
    refine wpAny_bind ?_; rw [← Array.forIn_toList]; simp only [List.forIn_cons, List.forIn_nil]
    refine wpAny_bind (wpAny_bind (wpAny_holding ?_)); show wpAny _ _ (Builtin.SmallTypes.nextOf (.ref i1) >>= _) _ _ _
    refine wpAny_bind (RZ.nextOf_tuple_end (s := { s with heap := ha }) hh (h1.extBut sa.extBut D.i1z) (g1.extBut sa.extBut D.l1z) hx fun hb e sb he => ?_)
    exact ⟨e, hb, rfl, rfl, fun c o n q => sb _ _ n.2.1 (sa.extBut _ _ n.1 q), he⟩
  unfold pyNext
  refine wpAny_bind (wpAny_attempt (wpAny_callSpecial?_slot (name := Str.ofString "__next__") ty F.slot_zip_next (wpAny_call_entry F.slot_zip_next ty F.entry_zip_next (wpAny_mono core (fun fin s' ⟨v, h, q⟩ => q.elim) fun e s' q => ?_) (F.args_zip_next_1 _))))
  obtain ⟨ea, h', rfl, rfl, hk, o, ho, hc⟩ := q
  refine wpAny_bind (wpAny_isInstance (T := "StopIteration") (b := true) ⟨o, ho, hc⟩ isSubtype_stop ?_)
  exact wpAny_pure (hQ _ hk)
end

/-! ### the loop that fills the list -/
section
variable {prog : Program} {w : World} {A : Around} {R : Result → Shared → Prop}
theorem fill {I S : Addr} {n : Nat} (J : Nat → Heap → List Addr → Prop) (FP : List Addr) (hSF : S ∉ FP) (hn : n ≤ sizeLine) (res : Value)
    (keep : ∀ k h h' Ts, J k h Ts → (∀ b o, b ≠ S → h.get? b = some o → h'.get? b = some o) → J k h' Ts)
    (item : ∀ (k : Nat) (s : Shared) (Ts : List Addr) (Q : Option Value → Shared → Prop) (E : Value → Shared → Prop), k < n → J k s.heap Ts → (∃ o, s.heap.get? S = some o) → (∀ T h', J (k + 1) h' (Ts ++ [T]) → (∀ b o, b ∉ FP → s.heap.get? b = some o → h'.get? b = some o) → Q (some (.ref T)) { s with heap := h' }) →
      wpAny (model prog w) A.in1 (pyNext (.ref I)) Q E s)
    (done : ∀ (s : Shared) (Ts : List Addr) (Q : Option Value → Shared → Prop) (E : Value → Shared → Prop), J n s.heap Ts → (∀ h', (∀ b o, b ∉ FP → s.heap.get? b = some o → h'.get? b = some o) → Q none { s with heap := h' }) → wpAny (model prog w) A.in1 (pyNext (.ref I)) Q E s) :
    ∀ (k i : Nat) (s : Shared) (Ts : List Addr) (c : Nat), n - i = k → i ≤ n → Ts.length = i → J i s.heap Ts → s.heap.get? S = some { cls := .type "list", dict := none, data := .seq (Ts.map Value.ref).toArray c, slots := #[] } →
    (∀ h1 h' Ts' c', J n h1 Ts' → Ts'.length = n → (∀ b o, b ∉ FP → b ≠ S → s.heap.get? b = some o → h1.get? b = some o) → (∀ b o, b ∉ FP → h1.get? b = some o → h'.get? b = some o) → h'.get? S = some { cls := .type "list", dict := none, data := .seq (Ts'.map Value.ref).toArray c', slots := #[] } → R (.ok (.ret res)) { s with heap := h' }) →
    codeAny (model prog w) A (.builtin "list.extend.loop" ⟨[.ref S, .ref I, res], []⟩) R s := by
  intro k
  induction k with
  | zero =>
    intro i s Ts c hk hi hl hj hS hR
    have e : i = n := by omega
    subst e
    refine codeAny_builtin F.entry_extend_loop ?_
    rw [Around.under_plainId F.plain_extend_loop _]
    show wpAny _ A.in1 (pyNext (.ref I) >>= _) _ _ s
    refine wpAny_bind (done s Ts _ _ hj fun h' k' => ?_)
    exact wpAny_pure (hR s.heap h' Ts c hj hl (fun _ _ _ _ q => q) k' (k' S _ hSF hS))
  | succ k ih =>
    intro i s Ts c hk hi hl hj hS hR
    refine codeAny_builtin F.entry_extend_loop ?_
    rw [Around.under_plainId F.plain_extend_loop _]
    show wpAny _ A.in1 (pyNext (.ref I) >>= _) _ _ s
    refine wpAny_bind (item i s Ts _ _ (by omega) hj ⟨_, hS⟩ fun T h' j' k' => ?_)
    have hS' := k' S _ hSF hS
    show wpAny _ A.in1 (updateSeq S (·.push (.ref T)) >>= _) _ _ _
    refine wpAny_bind ?_
    have sz : (Ts.map Value.ref).toArray.size = i := by rw [List.size_toArray, List.length_map, hl]
    have ep : (Ts.map Value.ref).toArray.push (.ref T) = ((Ts ++ [T]).map Value.ref).toArray := by simp
    refine wpAny_updateSeq hS' rfl (wpAny_pure ⟨plainId_quiet F.plain_extend_loop _, ?_⟩) (by rw [sz]; omega) (by show ((Ts.map Value.ref).toArray.push (.ref T)).size ≤ sizeLine + 1; rw [Array.size_push, sz]; omega)
    have up : ∀ b o, b ≠ S → h'.get? b = some o → (h'.update S (Obj.mapSeq (·.push (.ref T)))).get? b = some o := fun b o hb q => (Heap.get?_update_other _ _ (Ne.symm hb)).trans q
    have hS2 : (h'.update S (Obj.mapSeq (·.push (.ref T)))).get? S = some _ := Heap.get?_update_self _ hS' rfl
    refine ih (i + 1) { s with heap := h'.update S (Obj.mapSeq (·.push (.ref T))) } (Ts ++ [T]) _ (by omega) (by omega) (by rw [List.length_append, hl]; rfl) (keep _ _ _ _ j' up) (by rw [← ep]; exact hS2) fun h1 h2 Ts' c' a1 a2 a3 a4 a5 => ?_
    exact hR h1 h2 Ts' c' a1 a2 (fun b o n1 n2 q => a3 b o n1 n2 (up b o n2 (k' b o n1 q))) a4 a5
end

/-! ### list(z) -/
section
variable {prog : Program} {w : World} {A : Around} {E : Value → Shared → Prop} {s : Shared}
theorem ZL_iter {z : Addr} {o : Obj} {Q : Value → Shared → Prop} (hz : s.heap.get? z = some o) (hc : o.cls = .type "zip") (h : Q (.ref z) s) : wpAny (model prog w) A (pyIter (.ref z)) Q E s := by
  have ty : s.TypeIs (.ref z) "zip" := ⟨o, hz, hc⟩
  refine wpAny_pyIter_slot ty F.slot_zip_iter (wpAny_call_entry F.slot_zip_iter ty F.entry_zip_iter ?_ (F.args_zip_iter_1 _))
  exact wpAny_pure ⟨_, rfl, "zip", _, ty, F.slot_zip_next.lookup, h⟩
end
section
variable {prog : Program} {w : World} {A : Around} {E : Value → Shared → Prop} {s : Shared}
theorem list_of {z : Addr} {n : Nat} {oz : Obj} {Q : Value → Shared → Prop} (J : Nat → Heap → List Addr → Prop) (FP : List Addr) (hn : n ≤ sizeLine) (hF : ∀ b ∈ FP, b < s.heap.objs.size) (hz : ∀ h Ts, J 0 h Ts → ∃ o, h.get? z = some o ∧ o.cls = .type "zip") (hzF : z ∈ FP)
    (keep : ∀ k h h' Ts, J k h Ts → (∀ b o, b ≠ s.heap.objs.size → h.get? b = some o → h'.get? b = some o) → J k h' Ts)
    (item : ∀ (k : Nat) (s' : Shared) (Ts : List Addr) (Q : Option Value → Shared → Prop) (E : Value → Shared → Prop), k < n → J k s'.heap Ts → (∃ o, s'.heap.get? s.heap.objs.size = some o) → (∀ T h', J (k + 1) h' (Ts ++ [T]) → (∀ b o, b ∉ FP → s'.heap.get? b = some o → h'.get? b = some o) → Q (some (.ref T)) { s' with heap := h' }) →
      wpAny (model prog w) A.in1.in1 (pyNext (.ref z)) Q E s')
    (done : ∀ (s' : Shared) (Ts : List Addr) (Q : Option Value → Shared → Prop) (E : Value → Shared → Prop), J n s'.heap Ts → (∀ h', (∀ b o, b ∉ FP → s'.heap.get? b = some o → h'.get? b = some o) → Q none { s' with heap := h' }) → wpAny (model prog w) A.in1.in1 (pyNext (.ref z)) Q E s')
    (hj : J 0 s.heap [])
    (hQ : ∀ h1 h' Ts c', J n h1 Ts → Ts.length = n → (∀ b o, b ∉ FP → s.heap.get? b = some o → h1.get? b = some o) → (∀ b o, b ∉ FP → h1.get? b = some o → h'.get? b = some o) → h'.get? s.heap.objs.size = some { cls := .type "list", dict := none, data := .seq (Ts.map Value.ref).toArray c', slots := #[] } → Q (.ref s.heap.objs.size) { s with heap := h' }) :
    wpAny (model prog w) A (call (.type "list") [.ref z]) Q E s := by
  have hSF : s.heap.objs.size ∉ FP := fun m => Nat.lt_irrefl _ (hF _ m)
  refine callType_codes (Q₁ := fun obj s₁ => obj = .ref s.heap.objs.size ∧ s₁ = { s with heap := s.heap.push { cls := .type "list", data := .seq #[] } }) F.called_list (F.typeCall_list_1 _) F.entry_list_init (code_list_new _ ⟨rfl, rfl⟩) fun obj s₁ h₁ => ?_
  obtain ⟨rfl, rfl⟩ := h₁
  have hS0 : (s.heap.push { cls := .type "list", data := .seq #[] }).get? s.heap.objs.size = some { cls := .type "list", data := .seq #[] } := Heap.get?_push_size _ rfl
  refine ⟨⟨_, hS0, rfl⟩, F.args_list_init_2 _ _, ?_⟩
  generalize hsv : s.heap.objs.size = S at *
  have old : ∀ b o, s.heap.get? b = some o → (s.heap.push { cls := .type "list", data := .seq #[] }).get? b = some o := fun b o q => Heap.get?_push_of_some _ q
  generalize hg0 : s.heap.push { cls := .type "list", data := .seq #[] } = g0 at *
  show wpAny _ _ (do let old ← Builtin.List.listItems (.ref S); Builtin.List.listUpdate (.ref S) (fun _ => #[]); letGo old.toList.reverse; Builtin.List.listExtendWith (.ref S) (.ref z) .none) _ _ _
  refine wpAny_bind ?_
  unfold Builtin.List.listItems
  refine wpAny_bind (wpAny_seqItems hS0 rfl (wpAny_pure ?_))
  show wpAny _ _ (updateSeq S (fun _ => #[]) >>= fun _ => letGo (#[] : Array Value).toList.reverse >>= fun _ => Builtin.List.listExtendWith (.ref S) (.ref z) .none) _ _ _
  refine wpAny_bind (wpAny_updateSeq hS0 rfl ?_)
  have hS1 := Heap.get?_update_self (Obj.mapSeq (fun _ => (#[] : Array Value))) hS0 rfl
  have o1 : ∀ b o, b ≠ S → g0.get? b = some o → (g0.update S (Obj.mapSeq (fun _ => (#[] : Array Value)))).get? b = some o := fun b o hb q => (Heap.get?_update_other _ _ (Ne.symm hb)).trans q
  generalize hg1 : g0.update S (Obj.mapSeq (fun _ => (#[] : Array Value))) = g1 at *
  refine wpAny_bind (wpAny_letGo ?_)
  have hj1 : J 0 g1 [] := keep 0 _ _ _ (keep 0 _ _ _ hj fun b o _ q => old b o q) o1
  have tz : ∀ tk, (⟨g1, s.gens, s.drawn, tk, s.os⟩ : Shared).TypeIs (.ref z) "zip" := fun tk => let ⟨o, h1, h2⟩ := hz g1 [] hj1; ⟨o, h1, h2⟩
  have nSz : S ≠ z := fun q => hSF (q ▸ hzF)
  have b1 : Builtin.List.listSameRef (.ref S) (.ref z) = false := by simp [Builtin.List.listSameRef, nSz]
  have b2 : (Value.type "zip" == Value.type "list") = false := by decide
  have b3 : (Value.type "zip" == Value.type "tuple") = false := by decide
  unfold Builtin.List.listExtendWith
  refine wpAny_bind (wpAny_typeOf (tz _) ?_)
  simp only [b1, b2, b3, Bool.or_false, Bool.false_eq_true, if_false]
  obtain ⟨oz', hoz, hcz⟩ := hz g1 [] hj1
  refine wpAny_bind ?_
  show wpAny _ _ (pyIter (.ref z)) _ _ _
  have iter : ∀ (Q' : Value → Shared → Prop) (E' : Value → Shared → Prop), Q' (.ref z) (⟨g1, s.gens, s.drawn, s.toks, s.os⟩ : Shared) → wpAny (model prog w) A.in1.in1 (pyIter (.ref z)) Q' E' (⟨g1, s.gens, s.drawn, s.toks, s.os⟩ : Shared) := by
    intro Q' E' q
    exact ZL_iter hoz hcz q
  refine iter _ _ ?_
  refine wpAny_bind (wpAny_holding ?_)
  unfold Builtin.List.listLengthHint
  refine wpAny_bind (wpAny_specialOf (tz _) zip_len0 ?_)
  show wpAny _ _ (specialOf (Value.ref z) (Str.ofString "__length_hint__") >>= _) _ _ _
  refine wpAny_bind (wpAny_specialOf (tz _) zip_hint0 (wpAny_pure ?_))
  show wpAny _ _ (rule "list.extend.makes-room" >>= fun _ => Builtin.List.listTouch (.ref S) >>= fun _ => again (.builtin "list.extend.loop" ⟨[.ref S, .ref z, .none], []⟩)) _ _ _
  refine wpAny_bind (wpAny_rule (wpAny_bind ?_))
  show wpAny _ _ (updateSeq S (·.push .none) >>= fun _ => updateSeq S (·.pop)) _ _ _
  refine wpAny_bind (wpAny_updateSeq hS1 rfl ?_)
  have hS2 := Heap.get?_update_self (Obj.mapSeq (·.push Value.none)) hS1 rfl
  refine wpAny_updateSeq (hz := by seq_fits) hS2 rfl ?_
  have hS3 := Heap.get?_update_self (Obj.mapSeq (·.pop)) hS2 rfl
  have o2 : ∀ b o, b ≠ S → g1.get? b = some o → ((g1.update S (Obj.mapSeq (·.push Value.none))).update S (Obj.mapSeq (·.pop))).get? b = some o := fun b o hb q => (Heap.get?_update_other _ _ (Ne.symm hb)).trans ((Heap.get?_update_other _ _ (Ne.symm hb)).trans q)
  refine wpAny_pure ⟨plainId_quiet F.plain_extend_loop _, fill (S := S) J FP hSF hn .none keep item done n 0 _ [] _ rfl (Nat.zero_le _) rfl (keep 0 _ _ _ hj1 o2) hS3 fun h1 h' Ts c' a1 a2 a3 a4 a5 => ?_⟩
  exact ⟨rfl, hQ h1 h' Ts c' a1 a2 (fun b o nb q => a3 b o nb (fun e => by subst e; subst hsv; exact absurd (Heap.lt_size q) (Nat.lt_irrefl _)) (o2 b o (fun e => by subst e; subst hsv; exact absurd (Heap.lt_size q) (Nat.lt_irrefl _)) (o1 b o (fun e => by subst e; subst hsv; exact absurd (Heap.lt_size q) (Nat.lt_irrefl _)) (old b o q)))) a4 a5⟩
end
/-! ### list(zip(a, b)) as an expression -/
section
open L2
/-- the pairs made so far, the zip's own state -/
def JZ (it2 : Heap → Nat → Prop) (src : Heap → Prop) (z TI TO i1 i2 S : Addr) (xs ys : Array Value) (k : Nat) (h : Heap) (Ts : List Addr) : Prop :=
  IsPair h TI (.ref i1) (.ref i2) ∧ it2 h k ∧ src h ∧ ((k = 0 ∧ IsZip h z TI TO .none ∧ ∃ a b, IsPair h TO a b) ∨ (0 < k ∧ ∃ f T oT, IsZipHeld h z TI TO T f ∧ h.get? T = some oT ∧ T ∉ [z, TO, i1, i2] ∧ T ≠ S)) ∧ Ts.length = k ∧
    ∀ (j : Nat) (T : Addr), Ts[j]? = some T → T ∉ [z, TO, i1, i2] ∧ T ≠ S ∧ z < T ∧ ∃ x y, xs[j]? = some x ∧ ys[j]? = some y ∧ IsPair h T x y
theorem get_snoc {α : Type} {l : List α} {a b : α} {j : Nat} (h : (l ++ [a])[j]? = some b) : (j < l.length ∧ l[j]? = some b) ∨ (j = l.length ∧ b = a) := by
  rw [List.getElem?_append] at h
  split at h
  · exact .inl ⟨by assumption, h⟩
  · rename_i q
    have q1 := (List.getElem?_eq_some_iff.mp h).1
    rw [List.length_singleton] at q1
    have q2 : j - l.length = 0 := by omega
    rw [q2] at h
    exact .inr ⟨by omega, by cases h; rfl⟩
structure Kit (prog : Program) (w : World) (A : Around) (z TI TO i1 i2 : Addr) (xs ys : Array Value) (it2 : Heap → Nat → Prop) (src : Heap → Prop) : Prop where
  itk : ∀ h h' k, it2 h k → (∀ o, h.get? i1 = some o → h'.get? i1 = some o) → (∀ o, h.get? i2 = some o → h'.get? i2 = some o) → it2 h' k
  srck : ∀ h h', src h → (∀ b o, b ∉ [z, TO, i1, i2] → b < z → h.get? b = some o → h'.get? b = some o) → src h'
  item0 : ∀ (s : Shared) (x y a b : Value) (Q : Option Value → Shared → Prop) (E : Value → Shared → Prop), IsZip s.heap z TI TO .none → IsPair s.heap TI (.ref i1) (.ref i2) → IsPair s.heap TO a b → it2 s.heap 0 → src s.heap → xs[0]? = some x → ys[0]? = some y →
    (∀ h', IsZip h' z TI TO (rawInt s.heap.objs.size) → it2 h' 1 → IsPair h' s.heap.objs.size x y → (∀ c o, c ≠ z → c ≠ TO → c ≠ i1 → c ≠ i2 → s.heap.get? c = some o → h'.get? c = some o) → Q (some (.ref s.heap.objs.size)) { s with heap := h' }) → wpAny (model prog w) A (pyNext (.ref z)) Q E s
  itemH : ∀ (s : Shared) (T : Addr) (f : Bool) (oT : Obj) (k : Nat) (x y : Value) (Q : Option Value → Shared → Prop) (E : Value → Shared → Prop), IsZipHeld s.heap z TI TO T f → s.heap.get? T = some oT → IsPair s.heap TI (.ref i1) (.ref i2) → it2 s.heap k → src s.heap → xs[k]? = some x → ys[k]? = some y →
    (∀ h', IsZipHeld h' z TI TO T true → it2 h' (k + 1) → IsPair h' s.heap.objs.size x y → (∀ c o, c ≠ z → c ≠ i1 → c ≠ i2 → s.heap.get? c = some o → h'.get? c = some o) → Q (some (.ref s.heap.objs.size)) { s with heap := h' }) → wpAny (model prog w) A (pyNext (.ref z)) Q E s
  end0 : ∀ (s : Shared) (a b : Value) (Q : Option Value → Shared → Prop) (E : Value → Shared → Prop), IsZip s.heap z TI TO .none → IsPair s.heap TI (.ref i1) (.ref i2) → IsPair s.heap TO a b → it2 s.heap 0 → src s.heap → xs[0]? = none → ys[0]? = none →
    (∀ h', (∀ c o, c ≠ z → c ≠ TO → c ≠ i1 → c ≠ i2 → s.heap.get? c = some o → h'.get? c = some o) → Q none { s with heap := h' }) → wpAny (model prog w) A (pyNext (.ref z)) Q E s
  endH : ∀ (s : Shared) (T : Addr) (f : Bool) (oT : Obj) (k : Nat) (Q : Option Value → Shared → Prop) (E : Value → Shared → Prop), IsZipHeld s.heap z TI TO T f → s.heap.get? T = some oT → IsPair s.heap TI (.ref i1) (.ref i2) → it2 s.heap k → src s.heap → xs[k]? = none → ys[k]? = none →
    (∀ h', (∀ c o, c ≠ z → c ≠ i1 → c ≠ i2 → s.heap.get? c = some o → h'.get? c = some o) → Q none { s with heap := h' }) → wpAny (model prog w) A (pyNext (.ref z)) Q E s
section
variable {prog : Program} {w : World} {A : Around} {E : Value → Shared → Prop} {s : Shared}
theorem list_zip {z TI TO i1 i2 : Addr} {xs ys : Array Value} {n : Nat} {it2 : Heap → Nat → Prop} {src : Heap → Prop} {Q : Value → Shared → Prop} (K : Kit prog w A.in1.in1 z TI TO i1 i2 xs ys it2 src) (hx : xs.size = n) (hy : ys.size = n) (hn : n ≤ sizeLine)
    (hz : IsZip s.heap z TI TO .none) (hI : IsPair s.heap TI (.ref i1) (.ref i2)) (hO : ∃ a b, IsPair s.heap TO a b) (hit : it2 s.heap 0) (hs : src s.heap) (l1 : i1 < s.heap.objs.size) (l2 : i2 < s.heap.objs.size) (nI : TI ∉ [z, TO, i1, i2])
    (hQ : ∀ (h' : Heap) (Ts : List Addr) (c' : Nat), Ts.length = n → (∀ b o, b ∉ [z, TO, i1, i2] → s.heap.get? b = some o → h'.get? b = some o) → (∀ (j : Nat) (T : Addr), Ts[j]? = some T → z < T ∧ ∃ x y, xs[j]? = some x ∧ ys[j]? = some y ∧ IsPair h' T x y) →
      h'.get? s.heap.objs.size = some { cls := .type "list", dict := none, data := .seq (Ts.map Value.ref).toArray c', slots := #[] } → Q (.ref s.heap.objs.size) { s with heap := h' }) :
    wpAny (model prog w) A (call (.type "list") [.ref z]) Q E s := by
  have lz := Heap.lt_size hz
  have lO : TO < s.heap.objs.size := let ⟨_, _, q⟩ := hO; Heap.lt_size q
  have lI := Heap.lt_size hI
  have nz : ∀ b ∈ [z, TO, i1, i2], b < s.heap.objs.size := fun b hb => by
    simp only [List.mem_cons, List.not_mem_nil, or_false] at hb
    rcases hb with rfl | rfl | rfl | rfl <;> assumption
  have nS : ∀ b ∈ [z, TO, i1, i2], b ≠ s.heap.objs.size := fun b hb e => absurd (nz b hb) (by rw [e]; exact Nat.lt_irrefl _)
  have get : ∀ (k : Nat), k < n → ∃ x y, xs[k]? = some x ∧ ys[k]? = some y := fun k hk => ⟨xs[k]'(by omega), ys[k]'(by omega), by simp, by simp⟩
  refine list_of (z := z) (n := n) (oz := { cls := .none, data := .fields #[] }) (JZ it2 src z TI TO i1 i2 s.heap.objs.size xs ys) [z, TO, i1, i2] hn nz (fun h Ts j => ?_) List.mem_cons_self (fun k h h' Ts j kp => ?_) (fun k s' Ts Q' E' hk j hS q => ?_) (fun s' Ts Q' E' j q => ?_)
    ⟨hI, hit, hs, .inl ⟨rfl, hz, hO⟩, rfl, fun j T e => by simp at e⟩ (fun h1 h' Ts c' j hl k1 k2 hS => ?_)
  · rcases j.2.2.2.1 with ⟨_, q, _⟩ | ⟨_, f, T, oT, q, _⟩
    · exact ⟨_, q, rfl⟩
    · exact ⟨_, q, rfl⟩
  · obtain ⟨j1, j2, j3, j4, j5, j6⟩ := j
    have k' : ∀ b o, b ∈ [z, TO, i1, i2] → h.get? b = some o → h'.get? b = some o := fun b o hb q => kp b o (nS b hb) q
    refine ⟨kp _ _ (Nat.ne_of_lt lI) j1, K.itk h h' k j2 (fun o q => k' i1 o (by simp) q) (fun o q => k' i2 o (by simp) q), K.srck h h' j3 (fun b o _ hb q => kp b o (Nat.ne_of_lt (Nat.lt_trans hb lz)) q), ?_, j5, fun j T e => ?_⟩
    · rcases j4 with ⟨e, q, a, b, q2⟩ | ⟨e, f, T, oT, q, q2, q3, q4⟩
      · exact .inl ⟨e, k' z _ (by simp) q, a, b, k' TO _ (by simp) q2⟩
      · exact .inr ⟨e, f, T, oT, k' z _ (by simp) q, kp T _ q4 q2, q3, q4⟩
    · obtain ⟨a1, a2, a3, x, y, a4, a5, a6⟩ := j6 j T e
      exact ⟨a1, a2, a3, x, y, a4, a5, kp T _ a2 a6⟩
  · obtain ⟨j1, j2, j3, j4, j5, j6⟩ := j
    obtain ⟨x, y, ex, ey⟩ := get k hk
    obtain ⟨oS, hS⟩ := hS
    have lS := Heap.lt_size hS
    have fresh : ∀ b ∈ [z, TO, i1, i2], s'.heap.objs.size ≠ b := fun b hb e => absurd (Nat.lt_trans (nz b hb) lS) (by rw [← e]; exact Nat.lt_irrefl _)
    have nT : s'.heap.objs.size ∉ [z, TO, i1, i2] := fun m => fresh _ m rfl
    have zT : z < s'.heap.objs.size := Nat.lt_trans lz lS
    have more : ∀ h' : Heap, (∀ b o, b ∉ [z, TO, i1, i2] → s'.heap.get? b = some o → h'.get? b = some o) → IsPair h' s'.heap.objs.size x y → ∀ (j : Nat) (T : Addr), (Ts ++ [s'.heap.objs.size])[j]? = some T → T ∉ [z, TO, i1, i2] ∧ T ≠ s.heap.objs.size ∧ z < T ∧ ∃ x y, xs[j]? = some x ∧ ys[j]? = some y ∧ IsPair h' T x y := fun h' kp hp j T e => by
      rcases get_snoc e with ⟨_, e⟩ | ⟨e1, e2⟩
      · obtain ⟨a1, a2, a3, x', y', a4, a5, a6⟩ := j6 j T e
        exact ⟨a1, a2, a3, x', y', a4, a5, kp T _ a1 a6⟩
      · subst e1 e2
        rw [j5]
        exact ⟨nT, Nat.ne_of_gt lS, zT, x, y, ex, ey, hp⟩
    rcases j4 with ⟨e, z0, a, b, hO'⟩ | ⟨e, f, T, oT, z1, hT, nT1, nT2⟩
    · subst e
      refine K.item0 s' x y a b Q' E' z0 j1 hO' j2 j3 ex ey fun h' z' it' hp kp => ?_
      have kp' : ∀ b o, b ∉ [z, TO, i1, i2] → s'.heap.get? b = some o → h'.get? b = some o := fun b o nb e => by
        simp only [List.mem_cons, List.not_mem_nil, or_false, not_or] at nb
        exact kp b o nb.1 nb.2.1 nb.2.2.1 nb.2.2.2 e
      exact q _ h' ⟨kp' _ _ nI j1, it', K.srck _ _ j3 fun b o nb _ e => kp' b o nb e, .inr ⟨Nat.zero_lt_one, false, _, _, z', hp, nT, Nat.ne_of_gt lS⟩, by rw [List.length_append, j5]; rfl, more h' kp' hp⟩ kp'
    · refine K.itemH s' T f oT k x y Q' E' z1 hT j1 j2 j3 ex ey fun h' z' it' hp kp => ?_
      have kp' : ∀ b o, b ∉ [z, TO, i1, i2] → s'.heap.get? b = some o → h'.get? b = some o := fun b o nb e => by
        simp only [List.mem_cons, List.not_mem_nil, or_false, not_or] at nb
        exact kp b o nb.1 nb.2.2.1 nb.2.2.2 e
      exact q _ h' ⟨kp' _ _ nI j1, it', K.srck _ _ j3 fun b o nb _ e => kp' b o nb e, .inr ⟨Nat.succ_pos k, true, T, oT, z', kp' T _ nT1 hT, nT1, nT2⟩, by rw [List.length_append, j5]; rfl, more h' kp' hp⟩ kp'
  · obtain ⟨j1, j2, j3, j4, j5, j6⟩ := j
    have ex : xs[n]? = none := by simp; omega
    have ey : ys[n]? = none := by simp; omega
    rcases j4 with ⟨e, z0, a, b, hO'⟩ | ⟨e, f, T, oT, z1, hT, nT1, nT2⟩
    · rw [e] at ex ey j2
      refine K.end0 s' a b Q' E' z0 j1 hO' j2 j3 ex ey fun h' kp => q h' fun b o nb e => ?_
      simp only [List.mem_cons, List.not_mem_nil, or_false, not_or] at nb
      exact kp b o nb.1 nb.2.1 nb.2.2.1 nb.2.2.2 e
    · refine K.endH s' T f oT n Q' E' z1 hT j1 j2 j3 ex ey fun h' kp => q h' fun b o nb e => ?_
      simp only [List.mem_cons, List.not_mem_nil, or_false, not_or] at nb
      exact kp b o nb.1 nb.2.2.1 nb.2.2.2 e
  · obtain ⟨j1, j2, j3, j4, j5, j6⟩ := j
    refine hQ h' Ts c' hl (fun b o nb e => k2 b o nb (k1 b o nb e)) (fun j T e => ?_) hS
    obtain ⟨a1, a2, a3, x, y, a4, a5, a6⟩ := j6 j T e
    exact ⟨a3, x, y, a4, a5, k2 T _ a1 a6⟩
theorem kitL {z TI TO i1 i2 l1 l2 : Addr} {xs ys : Array Value} (hh : A.handled = none) (D : ZipApart z TI TO i1 i2 l1 l2) (b1 : l1 < z) (b2 : l2 < z) : Kit prog w A z TI TO i1 i2 xs ys (fun h k => h.IsListIter i1 l1 k ∧ h.IsListIter i2 l2 k) (fun h => h.IsList l1 xs ∧ h.IsList l2 ys) where
  itk := fun h h' k q k1 k2 => ⟨q.1.at fun o e => k1 o e, q.2.at fun o e => k2 o e⟩
  srck := fun h h' q kp => by
    obtain ⟨⟨o1, e1, r1⟩, ⟨o2, e2, r2⟩⟩ := q
    exact ⟨⟨o1, kp l1 o1 (by simp [D.l1z, D.l1TO, D.l1i1, D.l1i2]) b1 e1, r1⟩, ⟨o2, kp l2 o2 (by simp [D.l2z, D.l2TO, D.l2i1, D.l2i2]) b2 e2, r2⟩⟩
  item0 := fun s x y a b Q E hz hI hO it sr ex ey q => wpAny_pyNext_zip_item D hz hI hO it.1 it.2 sr.1 sr.2 ex ey fun h' a1 a2 a3 a4 a5 a6 a7 => q h' a1 ⟨a3, a4⟩ a5 a7
  itemH := fun s T f oT k x y Q E hz hT hI it sr ex ey q => wpAny_pyNext_zip_item_held D hz hT hI it.1 it.2 sr.1 sr.2 ex ey fun h' a1 a2 a3 a4 a5 a6 => q h' a1 ⟨a2, a3⟩ a4 a6
  end0 := fun s a b Q E hz hI hO it sr ex ey q => wpAny_pyNext_zip_end hh D hz hI hO it.1 it.2 sr.1 sr.2 (.inl ex) q
  endH := fun s T f oT k Q E hz hT hI it sr ex ey q => wpAny_pyNext_zip_end_held hh D hz hT hI it.1 it.2 sr.1 sr.2 (.inl ex) q
theorem kitT {z TI TO i1 i2 l1 l2 : Addr} {xs ys : Array Value} (hh : A.handled = none) (D : ZipApart z TI TO i1 i2 l1 l2) (b1 : l1 < z) (b2 : l2 < z) : Kit prog w A z TI TO i1 i2 xs ys (fun h k => h.IsTupleIter i1 l1 k ∧ h.IsTupleIter i2 l2 k) (fun h => h.IsTuple l1 xs ∧ h.IsTuple l2 ys) where
  itk := fun h h' k q k1 k2 => ⟨q.1.at fun o e => k1 o e, q.2.at fun o e => k2 o e⟩
  srck := fun h h' q kp => by
    obtain ⟨⟨o1, e1, r1⟩, ⟨o2, e2, r2⟩⟩ := q
    exact ⟨⟨o1, kp l1 o1 (by simp [D.l1z, D.l1TO, D.l1i1, D.l1i2]) b1 e1, r1⟩, ⟨o2, kp l2 o2 (by simp [D.l2z, D.l2TO, D.l2i1, D.l2i2]) b2 e2, r2⟩⟩
  item0 := fun s x y a b Q E hz hI hO it sr ex ey q => RZ.pyNext_zipT_item D hz hI hO it.1 it.2 sr.1 sr.2 ex ey fun h' a1 a2 a3 a4 a5 a6 a7 => q h' a1 ⟨a3, a4⟩ a5 a7
  itemH := fun s T f oT k x y Q E hz hT hI it sr ex ey q => nextT D hz hT hI it.1 it.2 sr.1 sr.2 ex ey fun h' a1 a2 a3 a4 => q h' a1 a2 a3 fun c o c1 c2 c3 e => a4 c o ⟨c1, c2, c3⟩ e
  end0 := fun s a b Q E hz hI hO it sr ex ey q => RZ.pyNext_zipT_end hh D hz hI hO it.1 it.2 sr.1 sr.2 (.inl ex) q
  endH := fun s T f oT k Q E hz hT hI it sr ex ey q => endT hh D hz hT hI it.1 it.2 sr.1 sr.2 ex fun h' a => q h' fun c o n1 n2 n3 e => a c o ⟨n1, n2, n3⟩ e
end
end
/-! ### the rule -/
section
open L2 PyProof.Rows
theorem inv_many {X : Cx} {pins : List (Addr × Obj)} {σ : L2.St} {H H2 : Hp} {s : Shared} {h2 : Heap} {t : Nat} (I : Inv X pins σ H s) (k : ∀ b o, s.heap.get? b = some o → h2.get? b = some o) (e : ∀ a o, H a = some o → H2 a = some o)
    (n : ∀ a o, H2 a = some o → H a = some o ∨ s.heap.objs.size ≤ a) (ok : HOk X.prog X.w H2 h2) : Inv X pins σ H2 { s with heap := h2, toks := t } := by
  refine I.un ⟨fun b o q _ _ _ => k b o q, fun b o q _ _ _ => ⟨o.slots, k b o q⟩, fun b o q hn _ => ?_, fun b o q _ => ⟨o, k b o q⟩, fun b xs q => e b _ q, fun b o u q => e b _ q, fun b ps q => ⟨#[], by rw [e b _ q]; simp⟩⟩ ok
  cases z : H2 b with
  | none => rfl
  | some u =>
    rcases n b u z with q2 | q2
    · rw [hn] at q2; cases q2
    · exact absurd (Heap.lt_size q) (Nat.not_lt.mpr q2)
open Classical in
noncomputable def withPairs (g : Heap) (H : Hp) (xs ys : List V) (Ts : List Addr) (l : Addr) : Hp := fun c => if c = l then some (.lst (Ts.map V.ref)) else if h : ∃ j : Nat, Ts[j]? = some c then some (.frz ((g.get? c).getD default) (.tup [xs.getD h.choose .non, ys.getD h.choose .non])) else H c
def tListZip (K : PySem.W.Frag) (ta : TA) : TE := fun σ H Q => ta σ H fun vs H1 => ∃ (a b : Addr) (xs ys : List V), vs = [.ref a, .ref b] ∧ ((SqL K H1 a xs ∧ SqL K H1 b ys) ∨ (SqT K H1 a xs ∧ SqT K H1 b ys)) ∧ xs.length = ys.length ∧
  ∀ (Ts : List Addr) (l : Addr) (H2 : Hp), Ts.length = xs.length → H1 l = none → (∀ T ∈ Ts, H1 T = none ∧ T ≠ l) → (∀ c o, H1 c = some o → H2 c = some o) → (∀ c o, H2 c = some o → H1 c = some o ∨ (H1 c = none ∧ (c = l ∨ c ∈ Ts))) → H2 l = some (.lst (Ts.map V.ref)) →
    (∀ (j : Nat) (T : Addr) (x y : V), Ts[j]? = some T → xs[j]? = some x → ys[j]? = some y → ∃ ob : Obj, H2 T = some (.frz ob (.tup [x, y])) ∧ ob.dict = none) → Q (.ref l) H2
theorem lt_no {b n k : Nat} (h : b < n) (e : b = n + k) : False := by omega
theorem lt_no0 {b n : Nat} (h : b < n) (e : b = n) : False := by omega
theorem no_le {c n k : Nat} {T : Nat} (h : n + k < T) : n ≤ T := by omega
theorem ne5 {c n m : Nat} (h : m = n + 5) (l : ¬ n ≤ c) : c ≠ m := by omega
theorem le5 {n m : Nat} (h : m = n + 5) : n ≤ m := by omega
theorem vals_refs : ∀ Ts : List Addr, Vals (Ts.map V.ref) (Ts.map Value.ref)
  | [] => .nil
  | _ :: r => .cons rfl (vals_refs r)
theorem zip_end {X : Cx} {pins : List (Addr × Obj)} {σ : L2.St} {H1 : Hp} {s1 : Shared} {xs ys : List V} {its its2 : List Value} {h' h'' : Heap} {Q : VK} (I1 : Inv X pins σ H1 s1) (rv : Vals xs its) (rv2 : Vals ys its2) (hl : xs.length = ys.length) (hz : xs.length ≤ sizeLine)
    (hsz : h'.objs.size = s1.heap.objs.size + 5) (hk : ∀ c o, s1.heap.get? c = some o → h'.get? c = some o)
    (q : ∀ (Ts : List Addr) (l : Addr) (H2 : Hp), Ts.length = xs.length → H1 l = none → (∀ T ∈ Ts, H1 T = none ∧ T ≠ l) → (∀ c o, H1 c = some o → H2 c = some o) → (∀ c o, H2 c = some o → H1 c = some o ∨ (H1 c = none ∧ (c = l ∨ c ∈ Ts))) → H2 l = some (.lst (Ts.map V.ref)) →
      (∀ (j : Nat) (T : Addr) (x y : V), Ts[j]? = some T → xs[j]? = some x → ys[j]? = some y → ∃ ob : Obj, H2 T = some (.frz ob (.tup [x, y])) ∧ ob.dict = none) → Q (.ref l) H2)
    {Ts : List Addr} {c' : Nat} (tl : Ts.length = xs.length) (kp : ∀ b o, b ∉ [s1.heap.objs.size + 4, s1.heap.objs.size + 3, s1.heap.objs.size, s1.heap.objs.size + 1] → h'.get? b = some o → h''.get? b = some o)
    (tp : ∀ (j : Nat) (T : Addr), Ts[j]? = some T → s1.heap.objs.size + 4 < T ∧ ∃ x y, its.toArray[j]? = some x ∧ its2.toArray[j]? = some y ∧ IsPair h'' T x y)
    (hS : h''.get? h'.objs.size = some { cls := .type "list", dict := none, data := .seq (Ts.map Value.ref).toArray c', slots := #[] }) : EP X pins σ Q (.ref h'.objs.size) { s1 with heap := h'' } := by
  have big : ∀ c, s1.heap.objs.size ≤ c → H1 c = none := fun c hc => I1.hok.fresh hc
  have kall : ∀ b o, s1.heap.get? b = some o → h''.get? b = some o := fun b o e => by
    have lb := Heap.lt_size e
    refine kp b o (fun m => ?_) (hk b o e)
    simp only [List.mem_cons, List.not_mem_nil, or_false] at m
    rcases m with m | m | m | m
    · exact lt_no lb m
    · exact lt_no lb m
    · exact lt_no0 lb m
    · exact lt_no lb m
  have nTl : ∀ (j : Nat) (T : Addr), Ts[j]? = some T → T ≠ h'.objs.size := fun j T e z => by
    obtain ⟨_, x, y, _, _, hp⟩ := tp j T e
    have hc : (Value.type "tuple" : Value) = Value.type "list" := congrArg Obj.cls (Option.some.inj (hp.symm.trans (z ▸ hS)))
    exact absurd hc (by decide +kernel)
  have mem : ∀ T ∈ Ts, ∃ j : Nat, Ts[j]? = some T := fun T m => List.mem_iff_getElem?.mp m
  have at_ : ∀ (j : Nat) (T : Addr), Ts[j]? = some T → ∃ x y u v, xs[j]? = some x ∧ ys[j]? = some y ∧ its[j]? = some u ∧ its2[j]? = some v ∧ RelV x u ∧ RelV y v ∧ IsPair h'' T u v := fun j T e => by
    obtain ⟨_, u, v, e1, e2, hp⟩ := tp j T e
    have jl : j < xs.length := by rw [← tl]; exact (List.getElem?_eq_some_iff.mp e).1
    have hx : xs[j]? = some xs[j] := by simp [jl]
    have hy : ys[j]? = some ys[j] := by simp [hl ▸ jl]
    obtain ⟨u', a1, a2⟩ := rv.get hx
    obtain ⟨v', b1, b2⟩ := rv2.get hy
    have e1 : its[j]? = some u := by simpa using e1
    have e2 : its2[j]? = some v := by simpa using e2
    rw [a1] at e1; cases e1
    rw [b1] at e2; cases e2
    exact ⟨_, _, _, _, hx, hy, a1, b1, a2, b2, hp⟩
  -- what stands at a pair's place
  have pairAt : ∀ (j : Nat) (T : Addr) (x y : V), Ts[j]? = some T → xs[j]? = some x → ys[j]? = some y → ∃ ob : Obj, withPairs h'' H1 xs ys Ts h'.objs.size T = some (.frz ob (.tup [x, y])) ∧ ob.dict = none ∧ h''.get? T = some ob := fun j T x y e hx hy => by
    unfold withPairs
    rw [if_neg (nTl j T e)]
    have ex : ∃ j : Nat, Ts[j]? = some T := ⟨j, e⟩
    rw [dif_pos ex]
    obtain ⟨x1, y1, u1, v1, p1, p2, p3, p4, p5, p6, p7⟩ := at_ _ T ex.choose_spec
    obtain ⟨x2, y2, u2, v2, q1, q2, q3, q4, q5, q6, q7⟩ := at_ j T e
    rw [q1] at hx; cases hx
    rw [q2] at hy; cases hy
    have z := p7.symm.trans q7
    cases z
    have ex1 := RelV.inj p5 q5
    have ex2 := RelV.inj p6 q6
    rw [List.getD_eq_getElem?_getD, List.getD_eq_getElem?_getD, p1, p2, ex1, ex2, p7]
    exact ⟨_, rfl, rfl, rfl⟩
  have here : withPairs h'' H1 xs ys Ts h'.objs.size h'.objs.size = some (.lst (Ts.map V.ref)) := by
    unfold withPairs
    rw [if_pos rfl]
  have old : ∀ c o, H1 c = some o → withPairs h'' H1 xs ys Ts h'.objs.size c = some o := fun c o e => by
    have nc : ¬ s1.heap.objs.size ≤ c := fun hc => by rw [big c hc] at e; cases e
    unfold withPairs
    rw [if_neg (ne5 hsz nc), dif_neg (fun ⟨j, hj⟩ => nc (no_le (c := c) (tp j c hj).1))]
    exact e
  have new : ∀ c o, withPairs h'' H1 xs ys Ts h'.objs.size c = some o → H1 c = some o ∨ (H1 c = none ∧ (c = h'.objs.size ∨ c ∈ Ts)) := fun c o e => by
    unfold withPairs at e
    by_cases h1 : c = h'.objs.size
    · exact .inr ⟨big c (by rw [h1]; exact le5 hsz), .inl h1⟩
    · rw [if_neg h1] at e
      by_cases h2 : ∃ j : Nat, Ts[j]? = some c
      · obtain ⟨j, hj⟩ := h2
        exact .inr ⟨big c (no_le (c := c) (tp j c hj).1), .inr (List.mem_iff_getElem?.mpr ⟨j, hj⟩)⟩
      · rw [dif_neg h2] at e
        exact .inl e
  have ok : HOk X.prog X.w (withPairs h'' H1 xs ys Ts h'.objs.size) h'' := fun a o e => by
    rcases new a o e with q1 | ⟨q1, q2⟩
    · exact (I1.hok a o q1).stay (fun b u _ q => kall b u q) (fun b q => old b _ q) fun b zs q => old b _ q
    · rcases q2 with q2 | q2
      · subst q2
        rw [here] at e; cases e
        exact ⟨by rw [List.length_map, tl]; exact hz, _, c', vals_refs Ts, hS⟩
      · obtain ⟨j, hj⟩ := mem a q2
        obtain ⟨x, y, u, v, p1, p2, p3, p4, p5, p6, p7⟩ := at_ j a hj
        obtain ⟨ob, z1, z2, z3⟩ := pairAt j a x y hj p1 p2
        rw [z1] at e; cases e
        refine ⟨z3, ?_⟩
        exact ⟨by show 2 ≤ sizeLine; decide, [u, v], .cons p5 (.cons p6 .nil), ⟨_, p7, rfl, 0, rfl⟩⟩
  refine ⟨.ref h'.objs.size, withPairs h'' H1 xs ys Ts h'.objs.size, inv_many (t := s1.toks) I1 kall old (fun a o e => ?_) ok, rfl, q Ts _ _ tl (big _ (le5 hsz)) (fun T m => ?_) old new here fun j T x y a b c => let ⟨ob, z1, z2, _⟩ := pairAt j T x y a b c; ⟨ob, z1, z2⟩⟩
  · rcases new a o e with q1 | ⟨q1, q2⟩
    · exact .inl q1
    · right
      rcases q2 with q2 | q2
      · rw [q2]; exact le5 hsz
      · obtain ⟨j, hj⟩ := mem a q2
        exact no_le (c := a) (tp j a hj).1
  · obtain ⟨j, hj⟩ := mem T m
    exact ⟨big T (no_le (c := T) (tp j T hj).1), nTl j T hj⟩
theorem pe_listZip {X : Cx} {e e2 : Expr} {ta : TA} {p0 p pos pos0 : Pos} (hc : X.calm = true) (hm0 : X.mg "list" = none) (hm : X.mg "zip" = none) (ha : PA X [e, e2] ta) (hg0 : Gl X "list" := by rfl) (hg : Gl X "zip" := by rfl)
    (hs0 : starEach [.Call (.Name "zip" p) [e, e2] [] pos] X.env = (false, eval (.Call (.Name "zip" p) [e, e2] [] pos) X.env) :: starEach [] X.env := by rfl)
    (hs : starEach [e, e2] X.env = (false, eval e X.env) :: starEach [e2] X.env := by rfl) (hpl : (backTo pos (starEach [e2] X.env)).any (·.1) = false := by rfl) :
    PE X (.Call (.Name "list" p0) [.Call (.Name "zip" p) [e, e2] [] pos] [] pos0) (tListZip X.K ta) := by
  refine ⟨fun pins s σ H Q I h => ?_⟩
  refine wpAny_Call_Name_kw (ld_blt I hg0 hm0 (show bootBuiltins ("list" : Str) = some (.type "list") by decide +kernel) (PyProof.Rows.callWith_type1 ?_ hs0 (by rfl)))
  rw [hs0]
  show wpAny _ _ (spliced ((false, eval (.Call (.Name "zip" p) [e, e2] [] pos) X.env) :: backTo pos0 (starEach [] X.env))) _ _ s
  refine Calls.spliced_cons (Call_ (ld_blt I hg hm PyProof.Rows.boot_zip (PyProof.Rows.callWith_type1 (thn (ha.run pos pins s σ H _ I h) fun us s1 ⟨vs, H1, I1, r1, q1⟩ => ?_) hs hpl)))
  obtain ⟨a, b, xs, ys, ex, hq, hl, q⟩ := q1
  subst ex
  have hh : X.A.in1.in1.handled = none := I.ok.hd hc
  cases r1 with
  | cons r rr =>
    cases rr with
    | cons r' rr =>
      cases rr
      cases r
      cases r'
      rcases hq with ⟨hx, hy⟩ | ⟨hx, hy⟩
      · obtain ⟨its, rv, p1, z1⟩ := I1.list hx
        obtain ⟨its2, rv2, p2, z2⟩ := I1.list hy
        have e1 := rv.length
        have e2' := rv2.length
        refine call_zip_2 p1.isList p2.isList fun h' hz hTI hTO h1 h2 hsz hk => Calls.spliced_nil ?_
        have la : a < s1.heap.objs.size := p1.lt
        have lb : b < s1.heap.objs.size := p2.lt
        refine list_zip (s := { s1 with heap := h' }) (xs := its.toArray) (ys := its2.toArray) (n := xs.length) (kitL hh (PySem.W.ktu_apart s1.heap.objs.size a b p1.lt p2.lt) (Nat.lt_of_lt_of_le la (Nat.le_add_right _ _)) (Nat.lt_of_lt_of_le lb (Nat.le_add_right _ _))) (by rw [List.size_toArray]; omega) (by rw [List.size_toArray]; omega) z1 hz hTI ⟨_, _, hTO⟩ ⟨h1, h2⟩ ⟨?_, ?_⟩ (by show s1.heap.objs.size < h'.objs.size; omega) (by show s1.heap.objs.size + 1 < h'.objs.size; omega) ?_ fun h'' Ts c' tl kp tp hS => zip_end (s1 := s1) I1 rv rv2 hl z1 hsz hk q tl kp tp hS
        · obtain ⟨o, ho, r⟩ := p1.isList
          exact ⟨o, hk _ _ ho, r⟩
        · obtain ⟨o, ho, r⟩ := p2.isList
          exact ⟨o, hk _ _ ho, r⟩
        · simp only [List.mem_cons, List.not_mem_nil, or_false, not_or]
          refine ⟨?_, ?_, ?_, ?_⟩ <;> (intro z; have z : (_ : Nat) = _ := z; omega)
      · obtain ⟨its, rv, p1, z1⟩ := I1.tuple hx
        obtain ⟨its2, rv2, p2, z2⟩ := I1.tuple hy
        have e1 := rv.length
        have e2' := rv2.length
        obtain ⟨o1, ho1, r1⟩ := id p1
        obtain ⟨o2, ho2, r2⟩ := id p2
        have la : a < s1.heap.objs.size := Heap.lt_size ho1
        have lb : b < s1.heap.objs.size := Heap.lt_size ho2
        refine RZ.call_zipT (show s1.heap.IsTuple a its.toArray from p1) (show s1.heap.IsTuple b its2.toArray from p2) fun h' hz hTI hTO h1 h2 hsz hk => Calls.spliced_nil ?_
        refine list_zip (s := { s1 with heap := h' }) (xs := its.toArray) (ys := its2.toArray) (n := xs.length) (kitT hh (PySem.W.ktu_apart s1.heap.objs.size a b la lb) (Nat.lt_of_lt_of_le la (Nat.le_add_right _ _)) (Nat.lt_of_lt_of_le lb (Nat.le_add_right _ _))) (by rw [List.size_toArray]; omega) (by rw [List.size_toArray]; omega) z1 hz hTI ⟨_, _, hTO⟩ ⟨h1, h2⟩ ⟨⟨o1, hk _ _ ho1, r1⟩, ⟨o2, hk _ _ ho2, r2⟩⟩ (by show s1.heap.objs.size < h'.objs.size; omega) (by show s1.heap.objs.size + 1 < h'.objs.size; omega) ?_ fun h'' Ts c' tl kp tp hS => zip_end (s1 := s1) I1 rv rv2 hl z1 hsz hk q tl kp tp hS
        simp only [List.mem_cons, List.not_mem_nil, or_false, not_or]
        refine ⟨?_, ?_, ?_, ?_⟩ <;> (intro z; have z : (_ : Nat) = _ := z; omega)
end
end ZL
set_option Elab.async false
set_option linter.all false
set_option maxRecDepth 100000
set_option maxHeartbeats 2000000
/-! DL4: the bag, lists of one's own, isinstance, comprehensions, defs. -/
namespace DL
open PySem L2
open ZT (PT)
section
variable {X : Cx} {W : WX}
/-! ### the bag's cells -/
def bagIx (B : Bag) : Nat → Option PD
  | 0 => some (.int (B.s0 : Int))
  | 1 => some (.int (B.s1 : Int))
  | 2 => some (.int (B.s2 : Int))
  | 3 => some (.list (B.cells.map fun n : Nat => PyData.int (n : Int)))
  | _ => none
def mBagIx (i k : Nat) : EnvM → Bag → Res PD := fun env B => match env[i]? with
  | some (some .bag) => (match bagIx B k with
    | some d => .ok d B
    | none => .bad)
  | _ => .bad
theorem DRs.nats {K : Fg} {G : Hp} : ∀ ns : List Nat, DRs K G (ns.map fun n : Nat => V.int (n : Int)) (ns.map fun n : Nat => PyData.int (n : Int))
  | [] => .nil
  | n :: r => .cons (.int _) (DRs.nats r)
theorem ed_bag (i k : Nat) {x : Str} {j : Nat} {p1 p2 pos : Pos} (hN : X.N[i]? = some x := by rfl) (hv : Vis X.env.scope x := by first | exact Or.inl rfl | exact Or.inr (Or.inl rfl) | exact Or.inr (Or.inr rfl)) (hd : (x == ("__debug__" : Str)) = false := by decide)
    (hcd : (x == ("__classdict__" : Str)) = false := by decide) : ED X W (.Subscript (.Name x p1) (.Constant (.int (k : Int)) j p2) pos) (tOp (rIxL X.K) (tVar i) (tC (.int (k : Int)))) (mBagIx i k) := by
  refine ⟨pe_ix ix_list (pe_var hN hv hd hcd) pe_int (fun _ _ => rfl), fun w G0 H0 σ env G H B Q R h => ?_⟩
  unfold mBagIx at h
  split at h
  · rename_i q
    obtain ⟨v, h1, b, l, hw, hv⟩ := R.slot i _ q
    subst hv
    obtain ⟨a1, a2, a3⟩ := R.ok.bag b l hw
    have gl := R.ok.gl b l hw
    have go : ∀ (v : V) (d : PD), ([V.int (B.s0 : Int), .int (B.s1 : Int), .int (B.s2 : Int), .ref l] : List V)[k]? = some v → bagIx B k = some d → DR X.K G v d → tOp (rIxL X.K) (tVar i) (tC (.int (k : Int))) σ H Q := fun v d e1 e2 dr => by
      rw [e2] at h
      exact ⟨_, h1, b, _, (k : Int), v, rfl, rfl, SqL.of a1, atI_nat e1, h v G H Step.refl R.ok dr⟩
    match k with
    | 0 => exact go _ _ rfl rfl (.int _)
    | 1 => exact go _ _ rfl rfl (.int _)
    | 2 => exact go _ _ rfl rfl (.int _)
    | 3 => exact go _ _ rfl rfl (.lst gl (DRs.nats _))
    | k + 4 => exact (show False from h).elim
  · exact h.elim
def bagSet (B : Bag) (k v : Nat) : Option Bag := match k with
  | 0 => some { B with s0 := v }
  | 1 => some { B with s1 := v }
  | 2 => some { B with s2 := v }
  | _ => none
/-- the slots when the bag changes -/
theorem Rel.bag {K : Fg} {w : Wd} {G0 H0 : Hp} {σ : L2.St} {env : EnvM} {G H : Hp} {B B' : Bag} (R : Rel K w G0 H0 σ env G H B) {b l : Addr} (hw : w.bg = some (b, l)) (hc : B'.cells = B.cells) :
    Rel K w G0 H0 σ env G (upd H b (.lst [.int (B'.s0 : Int), .int (B'.s1 : Int), .int (B'.s2 : Int), .ref l])) B' := by
  obtain ⟨a1, a2, a3⟩ := R.ok.bag b l hw
  have nG : ∀ c o, G c = some o → c ≠ b := fun c o e z => by
    rw [z, R.ok.gb b l hw] at e; cases e
  have nK : ∀ c, Nb1 w c → c ≠ b := fun c n z => n.1 b l hw z.symm
  refine ⟨⟨fun c o e => by rw [upd_ne (nG c o e)]; exact R.ok.sub c o e, fun b' l' e => ?_, R.ok.gb, tabs_upd R.ok.tabs (fun t ht z => by obtain ⟨ps, h1, _⟩ := R.ok.tabs t ht; rw [z, a1] at h1; cases h1) (fun _ => by rw [a1]; exact noCo (fun _ z => by cases z)), R.ok.gt, fun b' l' e => by rw [hc]; exact R.ok.gl b' l' e⟩, ⟨R.ent.exG, R.ent.fr, fun c o n nt e => by rw [upd_ne (nK c n)]; exact R.ent.keep c o n nt e, fun c o nt e => ?_⟩, R.len, fun i sv e => ?_, R.dist, R.wk⟩
  · rw [hw] at e
    cases e
    exact ⟨upd_same, a2, by rw [upd_ne a2, hc]; exact a3⟩
  · by_cases hcb : c = b
    · subst hcb; exact ⟨_, (fun _ z => by cases z), upd_same⟩
    · rw [upd_ne hcb]; exact R.ent.there c o nt e
  · obtain ⟨v, h1, h2⟩ := R.slot i sv e
    refine ⟨v, h1, ?_⟩
    cases sv with
    | d x => exact h2
    | own xs =>
      obtain ⟨p, vs, e1, g, h0, hn, hp, r⟩ := h2
      exact ⟨p, vs, e1, g, h0, hn, by rw [upd_ne (nK p hn.one)]; exact hp, r⟩
    | bag => exact h2
    | ownD xs =>
      obtain ⟨p, vs, e1, g, h0, hn, hp, r⟩ := h2
      exact ⟨p, vs, e1, g, h0, hn, by rw [upd_ne (nK p hn.one)]; exact hp, r⟩
def mBagSet (i k : Nat) (m : EnvM → Bag → Res PD) : EnvM → Bag → SRes := fun env B => (m env B).s env fun d B1 => match env[i]?, d with
  | some (some .bag), .int v => if 0 ≤ v then (match bagSet B1 k v.toNat with
    | some B2 => .nx env B2
    | none => .bad) else .bad
  | _, _ => .bad
theorem bag_put {K : Fg} {w : Wd} {G0 H0 : Hp} {σ : L2.St} {env : EnvM} {G H : Hp} {B B2 : Bag} {k v : Nat} {Q : Hp → Prop} {b l : Addr} (R : Rel K w G0 H0 σ env G H B) (hw : w.bg = some (b, l)) (e : bagSet B k v = some B2) (q : ∀ H', Rel K w G0 H0 σ env G H' B2 → Q H') : rSetL (.ref b) (.int (k : Int)) (.int (v : Int)) H Q := by
  obtain ⟨a1, a2, a3⟩ := R.ok.bag b l hw
  match k, e with
  | 0, e => cases e; exact ⟨b, _, 0, 0, rfl, rfl, a1, rfl, q _ (R.bag (B' := { B with s0 := v }) hw rfl)⟩
  | 1, e => cases e; exact ⟨b, _, 1, 1, rfl, rfl, a1, rfl, q _ (R.bag (B' := { B with s1 := v }) hw rfl)⟩
  | 2, e => cases e; exact ⟨b, _, 2, 2, rfl, rfl, a1, rfl, q _ (R.bag (B' := { B with s2 := v }) hw rfl)⟩
  | k + 3, e => cases e
theorem sd_bagSet (i k : Nat) {x : Str} {j : Nat} {e : Expr} {t : TE} {m : EnvM → Bag → Res PD} {p1 p2 p3 pos : Pos} (he : ED X W e t m) (hN : X.N[i]? = some x := by rfl) (hv : Vis X.env.scope x := by first | exact Or.inl rfl | exact Or.inr (Or.inl rfl) | exact Or.inr (Or.inr rfl))
    (hd : (x == ("__debug__" : Str)) = false := by decide) (hcd : (x == ("__classdict__" : Str)) = false := by decide)
    (hs : swapsWithSole [.Subscript (.Name x p1) (.Constant (.int (k : Int)) j p2) p3] e pos.line X.env = pure false := by rfl) (hw : swappedStores [.Subscript (.Name x p1) (.Constant (.int (k : Int)) j p2) p3] e X.env = pure none := by rfl)
    (h1 : (assignEach [.Subscript (.Name x p1) (.Constant (.int (k : Int)) j p2) p3] X.env).map (·.2) = [assign (.Subscript (.Name x p1) (.Constant (.int (k : Int)) j p2) p3) X.env] := by rfl) :
    SD X W (.Assign [.Subscript (.Name x p1) (.Constant (.int (k : Int)) j p2) p3] e pos) (tAsg t (gSub (tVar i) (tC (.int (k : Int))) rSetL)) (mBagSet i k m) := by
  refine ⟨ps_asg he.pe (pg_sub (pe_var hN hv hd hcd) pe_int set_list) hs hw h1, fun w G0 H0 σ env G H B D R h => ?_⟩
  refine he.sem w G0 H0 σ env G H B _ R (PostS.bind R (Sub.refl _) h fun d B1 v G1 H1 s1 o1 d1 h1 => ?_)
  have R1 := R.step s1 o1
  split at h1
  · rename_i z q
    obtain ⟨v', g1, b, l, hw, hv⟩ := R1.slot i _ q
    subst hv
    have e1 := d1.int_inv
    subst e1
    by_cases hz : 0 ≤ z
    · rw [if_pos hz] at h1
      cases e2 : bagSet B1 k z.toNat with
      | none => rw [e2] at h1; exact h1.elim
      | some B2 =>
        rw [e2] at h1
        have ez : ((z.toNat : Nat) : Int) = z := Int.toNat_of_nonneg hz
        refine ⟨_, g1, ?_⟩
        rw [← ez]
        exact bag_put R1 hw e2 fun H' R' => h1 σ G1 H' R' s1.exG
    · rw [if_neg hz] at h1; exact h1.elim
  · exact h1.elim
/-- bag[k] += n -/
theorem get_bag : PGet X (fun x y H Q => ∃ (p : Addr) (xs : List V) (k : Nat) (v : V), x = .ref p ∧ y = .int (k : Int) ∧ H p = some (.lst xs) ∧ xs[k]? = some v ∧ Q v H) := by
  intro pins s σ H o i ov iv Q I ro ri h
  obtain ⟨p, xs, k, v, rfl, rfl, hp, hx, q⟩ := h
  cases ro
  obtain ⟨t, rfl⟩ := ri
  obtain ⟨its, r, pl, hz⟩ := I.list (SqL.of hp)
  obtain ⟨u, hu, ru⟩ := r.get hx
  have hk : k < xs.length := (List.getElem?_eq_some_iff.mp hx).1
  have hn := line63
  exact wpAny_getItem_list pl.isList (by omega) (by omega) (by simpa using hu) ⟨v, H, I, ru, q⟩
def mBagAug (i k n : Nat) : EnvM → Bag → SRes := fun env B => match env[i]? with
  | some (some .bag) => (match bagIx B k with
    | some (.int v) => (match bagSet B k (v.toNat + n) with
      | some B2 => .nx env B2
      | none => .bad)
    | _ => .bad)
  | _ => .bad
theorem sd_bagAug (i k n : Nat) {x : Str} {j j2 : Nat} {p1 p2 p3 p4 pos : Pos} (hN : X.N[i]? = some x := by rfl) (hv : Vis X.env.scope x := by first | exact Or.inl rfl | exact Or.inr (Or.inl rfl) | exact Or.inr (Or.inr rfl))
    (hd : (x == ("__debug__" : Str)) = false := by decide) (hcd : (x == ("__classdict__" : Str)) = false := by decide) :
    SD X W (.AugAssign (.Subscript (.Name x p1) (.Constant (.int (k : Int)) j p2) p3) .Add (.Constant (.int (n : Int)) j2 p4) pos)
      (tAugS (tVar i) (tC (.int (k : Int))) (tC (.int (n : Int))) (fun x y H Q => ∃ (p : Addr) (xs : List V) (k : Nat) (v : V), x = .ref p ∧ y = .int (k : Int) ∧ H p = some (.lst xs) ∧ xs[k]? = some v ∧ Q v H) (ipI fun i j => i + j) rSetL) (mBagAug i k n) := by
  refine ⟨ps_augS (pe_var hN hv hd hcd) pe_int get_bag pe_int ip_add set_list, fun w G0 H0 σ env G H B D R h => ?_⟩
  unfold mBagAug at h
  split at h
  · rename_i q
    obtain ⟨v, h1, b, l, hw, hv⟩ := R.slot i _ q
    subst hv
    obtain ⟨a1, a2, a3⟩ := R.ok.bag b l hw
    have go : ∀ (v : Nat) (B2 : Bag), ([V.int (B.s0 : Int), .int (B.s1 : Int), .int (B.s2 : Int), .ref l] : List V)[k]? = some (.int (v : Int)) → bagSet B k (v + n) = some B2 → PostS X.K X.mg w G0 H0 G W D (.nx env B2) →
        tAugS (tVar i) (tC (.int (k : Int))) (tC (.int (n : Int))) (fun x y H Q => ∃ (p : Addr) (xs : List V) (k : Nat) (v : V), x = .ref p ∧ y = .int (k : Int) ∧ H p = some (.lst xs) ∧ xs[k]? = some v ∧ Q v H) (ipI fun i j => i + j) rSetL D σ H := fun v B2 e1 e2 p => by
      refine ⟨_, h1, b, _, k, _, rfl, rfl, a1, e1, (v : Int), (n : Int), rfl, rfl, ?_⟩
      have ez : ((v : Int) + (n : Int)) = ((v + n : Nat) : Int) := by omega
      show rSetL (.ref b) (.int (k : Int)) (.int ((v : Int) + (n : Int))) H _
      rw [ez]
      exact bag_put R hw e2 fun H' R' => p σ G H' R' (Sub.refl G)
    match k, h with
    | 0, h => exact go B.s0 _ rfl rfl h
    | 1, h => exact go B.s1 _ rfl rfl h
    | 2, h => exact go B.s2 _ rfl rfl h
    | 3, h => exact h.elim
    | k + 4, h => exact h.elim
  · exact h.elim

/-! ### lists of one's own -/
theorem Rel.setOwn {K : Fg} {w : Wd} {G0 H0 : Hp} {σ : L2.St} {env : EnvM} {G H G1 H1 : Hp} {B B1 : Bag} {p : Addr} {vs : List V} {xs : List PD} (R : Rel K w G0 H0 σ env G H B) (s : Step w G H G1 H1) (o : Ok w G1 H1 B1) (i : Nat) (hn : NN (H p)) (hp : H1 p = some (.lst vs)) (hg : G1 p = none) (hb : Nb w p) (r : DRs K G1 vs xs) :
    Rel K w G0 H0 (σ.set i (some (.ref p))) (env.set i (some (.own xs))) G1 H1 B1 := by
  have h0 : NN (H0 p) := R.ent.back0 hn
  refine (R.step s o).put i (fun sv e => by cases e; exact ⟨_, rfl, p, vs, rfl, hg, h0, hb, hp, r⟩) fun sv e _ j sj q hij ej oj eq z => ?_
  cases eq
  obtain ⟨v, h1, h2⟩ := R.slot j sj ej
  cases sj with
  | d x => cases oj
  | bag => cases oj
  | own ys =>
    obtain ⟨p', vs', e1, _, _, _, hp', _⟩ := h2
    subst e1
    rw [h1] at z
    cases z
    exact hn.ne hp' (fun _ z => by cases z) rfl
  | ownD ys =>
    obtain ⟨p', vs', e1, _, _, _, hp', _⟩ := h2
    subst e1
    rw [h1] at z
    cases z
    exact hn.ne hp' (fun _ z => by cases z) rfl
/-- the list of one's own in slot i changes -/
theorem Rel.upOwn {K : Fg} {w : Wd} {G0 H0 : Hp} {σ : L2.St} {env : EnvM} {G H : Hp} {B : Bag} {p : Addr} {vs vs' : List V} {xs xs' : List PD} (R : Rel K w G0 H0 σ env G H B) (i : Nat) (e : env[i]? = some (some (.own xs))) (hs : σ[i]? = some (some (.ref p))) (hp : H p = some (.lst vs)) (r : DRs K G vs' xs') (hg : G p = none) (h0 : NN (H0 p)) (hb : Nb w p) :
    Rel K w G0 H0 σ (env.set i (some (.own xs'))) G (upd H p (.lst vs')) B := by
  have hi : i < env.length := (List.getElem?_eq_some_iff.mp e).1
  refine ⟨R.ok.mut hg hb (fun _ => by rw [hp]; exact noCo (fun _ z => by cases z)), ⟨R.ent.exG, R.ent.fr, fun a o n nt q => by rw [upd_ne (h0.ne q nt)]; exact R.ent.keep a o n nt q, fun a o nt q => by rw [upd_ne (h0.ne q nt)]; exact R.ent.there a o nt q⟩, by rw [List.length_set]; exact R.len, fun j sv ej => ?_, fun j k sj sk q hjk ej oj ek ok => ?_, R.wk⟩
  · by_cases hij : i = j
    · subst hij
      rw [List.getElem?_set_self hi] at ej
      cases ej
      exact ⟨_, hs, p, vs', rfl, hg, h0, hb, upd_same, r⟩
    · rw [List.getElem?_set_ne hij] at ej
      obtain ⟨v, h1, h2⟩ := R.slot j sv ej
      refine ⟨v, h1, ?_⟩
      cases sv with
      | d x => exact h2
      | bag => exact h2
      | own ys =>
        obtain ⟨p', us, e1, g', h0', hb', hp', r'⟩ := h2
        subst e1
        have npp : p' ≠ p := fun z => by
          subst z
          exact R.dist i j _ _ p' hij e rfl ej rfl hs h1
        exact ⟨p', us, rfl, g', h0', hb', by rw [upd_ne npp]; exact hp', r'⟩
      | ownD ys =>
        obtain ⟨p', us, e1, g', h0', hb', hp', r'⟩ := h2
        subst e1
        have npp : p' ≠ p := fun z => by
          subst z
          exact R.dist i j _ _ p' hij e rfl ej rfl hs h1
        exact ⟨p', us, rfl, g', h0', hb', by rw [upd_ne npp]; exact hp', r'⟩
  · have back : ∀ (j : Nat) (sj : SV), (env.set i (some (.own xs')))[j]? = some (some sj) → sj.isOwn = true → ∃ s', env[j]? = some (some s') ∧ s'.isOwn = true := fun j sj ej oj => by
      by_cases hij : i = j
      · subst hij; exact ⟨_, e, rfl⟩
      · rw [List.getElem?_set_ne hij] at ej; exact ⟨sj, ej, oj⟩
    obtain ⟨s1, q1, q2⟩ := back j sj ej oj
    obtain ⟨s2, q3, q4⟩ := back k sk ek ok
    exact R.dist j k s1 s2 q hjk q1 q2 q3 q4
/-- a, b = [..], e -/
def mParOwn (i j : Nat) (m : EnvM → Bag → Res (List SV)) (m2 : EnvM → Bag → Res PD) : EnvM → Bag → SRes := fun env B => (m env B).s env fun ss B1 => match unD ss with
  | some ds => if ds.length ≤ sizeLine then (m2 env B1).s env fun d B2 => .nx ((env.set i (some (.own ds))).set j (some (.d d))) B2 else .bad
  | none => .bad
theorem sd_parOwn (i j : Nat) {x y : Str} {es : List Expr} {b : Expr} {t : TA} {t2 : TE} {m : EnvM → Bag → Res (List SV)} {m2 : EnvM → Bag → Res PD} {px py pt pl pos : Pos} {kt k2 pt2} (hc : X.calm = true) (hN : X.N.Nodup) (ha : AD X W es t m) (hb : ED X W b t2 m2) (hi : X.N[i]? = some x := by rfl) (hj : X.N[j]? = some y := by rfl) (hij : i ≠ j := by decide)
    (hx : X.env.scope.names.lookup x = some .local := by rfl) (hy : X.env.scope.names.lookup y = some .local := by rfl)
    (hs1 : starEach [.List es pl, b] X.env = (false, eval (.List es pl) X.env) :: starEach [b] X.env := by rfl) (hs2 : starEach [b] X.env = (false, eval b X.env) :: starEach [] X.env := by rfl)
    (hw : swappedStores [.Tuple [.Name x px, .Name y py] kt pt] (.Tuple [.List es pl, b] k2 pt2) X.env = pure (some [x, y]) := by rfl)
    (hs : swapsWithSole [.Tuple [.Name x px, .Name y py] kt pt] (.Tuple [.List es pl, b] k2 pt2) pos.line X.env = pure false := by rfl) :
    SD X W (.Assign [.Tuple [.Name x px, .Name y py] kt pt] (.Tuple [.List es pl, b] k2 pt2) pos) (tPar i j (tCons (tLst t) (tCons t2 tNil))) (mParOwn i j m m2) := by
  refine ⟨ps_par hc hN hi hj hij hx hy (pa_cons (pe_lst ha.pe) (pa_cons hb.pe pa_nil hs2) hs1) hw hs, fun w G0 H0 σ env G H B D R h => ?_⟩
  refine ha.sem w G0 H0 σ env G H B _ R (PostS.bind R (Sub.refl _) h fun ss B1 vs G1 H1 s1 o1 d1 h1 => ?_)
  cases e : unD ss with
  | none => simp only [e] at h1; exact h1.elim
  | some ds =>
    simp only [e] at h1
    have r := d1.un e
    by_cases hl : ds.length ≤ sizeLine
    · rw [if_pos hl] at h1
      refine ⟨by rw [r.length]; exact hl, fun p hp => ?_⟩
      have R1 := R.step s1 o1
      have s2 : Step w G1 H1 G1 (upd H1 p (.lst vs)) := Step.newH hp
      have o2 := o1.newH (o := .lst vs) hp
      have R2 := R1.step s2 o2
      refine hb.sem w G0 H0 σ env G1 (upd H1 p (.lst vs)) B1 _ R2 (PostS.bind R2 s1.exG h1 fun d B2 v G3 H3 s3 o3 d3 h3 => ?_)
      have nb := o1.nb hp
      have gp : G3 p = none := by
        cases q : G3 p with
        | none => rfl
        | some o =>
          rcases s3.fr p o q with z | z
          · have := o1.sub p o z
            rw [hp] at this; cases this
          · exact absurd rfl (z.ne upd_same (fun _ z => by cases z))
      have R3 := R1.setOwn (s2.trans s3) o3 i (.inl hp) (s3.keep p _ nb.one (fun _ z => by cases z) upd_same) gp nb (r.mono s3.exG)
      exact ⟨_, _, rfl, h3 _ G3 H3 (R3.set j d3) (Sub.trans s1.exG s3.exG)⟩
    · rw [if_neg hl] at h1; exact h1.elim
/-- x = [..] -/
def mOwn (i : Nat) (m : EnvM → Bag → Res (List SV)) : EnvM → Bag → SRes := fun env B => (m env B).s env fun ss B1 => match unD ss with
  | some ds => if ds.length ≤ sizeLine then .nx (env.set i (some (.own ds))) B1 else .bad
  | none => .bad
theorem sd_own (i : Nat) {x : Str} {es : List Expr} {t : TA} {m : EnvM → Bag → Res (List SV)} {pos pos' pl : Pos} (hN : X.N.Nodup) (ha : AD X W es t m) (hi : X.N[i]? = some x := by rfl) (hx : Loc X.env.scope x := by first | exact Or.inl rfl | exact Or.inr rfl)
    (hs : swapsWith (.List es pl) (some (.Name x pos')) pos.line X.env = pure false := by rfl) (hf : X.fn x = true ∨ X.env.scope.names.lookup x = some .local := by first | exact .inl rfl | exact .inr rfl) :
    SD X W (.Assign [.Name x pos'] (.List es pl) pos) (tAsg (tLst t) (gName i)) (mOwn i m) := by
  refine ⟨ps_set hN hi hx (pe_lst ha.pe) hs hf, fun w G0 H0 σ env G H B D R h => ?_⟩
  refine ha.sem w G0 H0 σ env G H B _ R (PostS.bind R (Sub.refl _) h fun ss B1 vs G1 H1 s1 o1 d1 h1 => ?_)
  cases e : unD ss with
  | none => simp only [e] at h1; exact h1.elim
  | some ds =>
    simp only [e] at h1
    have r := d1.un e
    by_cases hl : ds.length ≤ sizeLine
    · rw [if_pos hl] at h1
      refine ⟨by rw [r.length]; exact hl, fun p hp => ?_⟩
      exact h1 _ G1 _ ((R.step s1 o1).setOwn (Step.newH hp) (o1.newH hp) i (.inl hp) upd_same (o1.free hp) (o1.nb hp) r) s1.exG
    · rw [if_neg hl] at h1; exact h1.elim
/-- what the slot's list is -/
theorem own_at {K : Fg} {w : Wd} {G0 H0 : Hp} {σ : L2.St} {env : EnvM} {G H : Hp} {B : Bag} {i : Nat} {xs : List PD} (R : Rel K w G0 H0 σ env G H B) (e : env[i]? = some (some (.own xs))) : ∃ p vs, σ[i]? = some (some (.ref p)) ∧ G p = none ∧ NN (H0 p) ∧ Nb w p ∧ H p = some (.lst vs) ∧ DRs K G vs xs := by
  obtain ⟨v, h1, p, vs, rfl, h2⟩ := R.slot i _ e
  exact ⟨p, vs, h1, h2⟩
/-- len(x), x one's own -/
def mLenOwn (i : Nat) : EnvM → Bag → Res PD := fun env B => match env[i]? with
  | some (some (.own xs)) => .ok (.int (xs.length : Int)) B
  | _ => .bad
theorem ed_lenOwn (i : Nat) {x : Str} {p1 p pos : Pos} (hm : X.mg "len" = none) (hg : Gl X "len" := by rfl) (hN : X.N[i]? = some x := by rfl) (hv : Vis X.env.scope x := by first | exact Or.inl rfl | exact Or.inr (Or.inl rfl) | exact Or.inr (Or.inr rfl)) (hd : (x == ("__debug__" : Str)) = false := by decide)
    (hcd : (x == ("__classdict__" : Str)) = false := by decide) (hs : starEach [.Name x p1] X.env = (false, eval (.Name x p1) X.env) :: starEach [] X.env := by rfl) (hpl : (backTo pos (starEach [] X.env)).any (·.1) = false := by rfl) :
    ED X W (.Call (.Name "len" p) [.Name x p1] [] pos) (tCB (fun xs H Q => ∃ x n, xs = [x] ∧ LenV X.K x H n ∧ Q (.int n) H) (tCons (tVar i) tNil)) (mLenOwn i) := by
  refine ⟨pe_callB call_len hg hm PySem.boot_len (pa_cons (pe_var hN hv hd hcd) pa_nil hs) (by decide) (by decide) hs hpl, fun w G0 H0 σ env G H B Q R h => ?_⟩
  unfold mLenOwn at h
  split at h
  · rename_i xs q
    obtain ⟨p, vs, h1, _, _, _, hp, r⟩ := own_at R q
    exact ⟨_, h1, _, _, rfl, .inl ⟨vs, SqL.of hp, rfl⟩, by rw [r.length]; exact h _ G H Step.refl R.ok (.int _)⟩
  · exact h.elim
/-- x[e], x one's own -/
def mIxOwn (i : Nat) (m : EnvM → Bag → Res PD) : EnvM → Bag → Res PD := fun env B => match env[i]? with
  | some (some (.own xs)) => (m env B).bind fun d B1 => (match d with
    | .int k => (match atI xs k with
      | some z => .ok z B1
      | none => .bad)
    | _ => .bad)
  | _ => .bad
theorem ed_ixOwn (i : Nat) {x : Str} {e : Expr} {t : TE} {m : EnvM → Bag → Res PD} {p1 pos : Pos} (he : ED X W e t m) (hs : PlainIx e := by exact fun _ _ => rfl) (hN : X.N[i]? = some x := by rfl) (hv : Vis X.env.scope x := by first | exact Or.inl rfl | exact Or.inr (Or.inl rfl) | exact Or.inr (Or.inr rfl)) (hd : (x == ("__debug__" : Str)) = false := by decide)
    (hcd : (x == ("__classdict__" : Str)) = false := by decide) : ED X W (.Subscript (.Name x p1) e pos) (tOp (rIxL X.K) (tVar i) t) (mIxOwn i m) := by
  refine ⟨pe_ix ix_list (pe_var hN hv hd hcd) he.pe hs, fun w G0 H0 σ env G H B Q R h => ?_⟩
  unfold mIxOwn at h
  split at h
  · rename_i xs q
    obtain ⟨p, vs, h1, g, h0, nb, hp, r⟩ := own_at R q
    refine ⟨_, h1, he.sem w G0 H0 σ env G H B _ R (PostR.bind h fun d B1 v G1 H1 s1 o1 d1 h2 => ?_)⟩
    cases d with
    | int k =>
      have e1 := d1.int_inv
      subst e1
      cases ez : atI xs k with
      | none => simp only [ez] at h2; exact h2.elim
      | some z =>
        simp only [ez] at h2
        obtain ⟨u, a1, a2⟩ := atI_of (r.mono s1.exG) ez
        exact ⟨p, vs, k, u, rfl, rfl, SqL.of (s1.keep p _ nb.one (fun _ z => by cases z) hp), a1, h2 u G1 H1 Step.refl o1 a2⟩
    | _ => exact (show False from h2).elim
  · exact h.elim
/-- x.append(e) -/
def mApp (i : Nat) (m : EnvM → Bag → Res PD) : EnvM → Bag → SRes := fun env B => match env[i]? with
  | some (some (.own xs)) => (m env B).s env fun d B1 => if xs.length < sizeLine then .nx (env.set i (some (.own (xs ++ [d])))) B1 else .bad
  | _ => .bad
theorem sd_app (i : Nat) {x : Str} {e : Expr} {t : TE} {m : EnvM → Bag → Res PD} {p1 p2 pc pos : Pos} (he : ED X W e t m) (hN : X.N[i]? = some x := by rfl) (hv : Vis X.env.scope x := by first | exact Or.inl rfl | exact Or.inr (Or.inl rfl) | exact Or.inr (Or.inr rfl)) (hd : (x == ("__debug__" : Str)) = false := by decide)
    (hcd : (x == ("__classdict__" : Str)) = false := by decide) (hpe : PE X (.Call (.Attribute (.Name x p1) "append" p2) [e] [] pc) (tBM X.K "list" rAppend (tVar i) (tCons t tNil)))
    (hs : swapsWith (.Call (.Attribute (.Name x p1) "append" p2) [e] [] pc) none pos.line X.env = pure false := by rfl) :
    SD X W (.Expr (.Call (.Attribute (.Name x p1) "append" p2) [e] [] pc) pos) (tDrop (tBM X.K "list" rAppend (tVar i) (tCons t tNil))) (mApp i m) := by
  refine ⟨ps_expr hpe hs, fun w G0 H0 σ env G H B D R h => ?_⟩
  unfold mApp at h
  split at h
  · rename_i xs q
    obtain ⟨p, vs, h1, g, h0, nb, hp, r⟩ := own_at R q
    refine ⟨_, h1, .inl ⟨rfl, _, SqL.of hp⟩, ?_⟩
    refine he.sem w G0 H0 σ env G H B _ R (PostS.bind R (Sub.refl _) h fun d B1 v G1 H1 s1 o1 d1 h2 => ?_)
    by_cases hl : xs.length < sizeLine
    · rw [if_pos hl] at h2
      have R1 := R.step s1 o1
      obtain ⟨p', vs', g1, g2, g3, g4, g5, g6⟩ := own_at R1 q
      rw [h1] at g1
      cases g1
      have hpp := s1.keep p _ nb.one (fun _ z => by cases z) hp
      rw [hpp] at g5
      cases g5
      exact ⟨p, vs, v, rfl, rfl, hpp, by rw [r.length]; exact hl, h2 σ G1 _ (R1.upOwn i q h1 hpp (g6.append (.cons d1 .nil)) g2 g3 g4) s1.exG⟩
    · rw [if_neg hl] at h2; exact h2.elim
  · exact h.elim
/-- x.extend(e), e a list -/
def mExt (i : Nat) (m : EnvM → Bag → Res PD) : EnvM → Bag → SRes := fun env B => match env[i]? with
  | some (some (.own xs)) => (m env B).s env fun d B1 => (match d with
    | .list ys => if xs.length + ys.length ≤ sizeLine then .nx (env.set i (some (.own (xs ++ ys)))) B1 else .bad
    | _ => .bad)
  | _ => .bad
theorem sd_ext (i : Nat) {x : Str} {e : Expr} {t : TE} {m : EnvM → Bag → Res PD} {p1 p2 pc pos : Pos} (he : ED X W e t m) (hN : X.N[i]? = some x := by rfl) (hv : Vis X.env.scope x := by first | exact Or.inl rfl | exact Or.inr (Or.inl rfl) | exact Or.inr (Or.inr rfl)) (hd : (x == ("__debug__" : Str)) = false := by decide)
    (hcd : (x == ("__classdict__" : Str)) = false := by decide) (hpe : PE X (.Call (.Attribute (.Name x p1) "extend" p2) [e] [] pc) (tBM X.K "list" rExtend (tVar i) (tCons t tNil)))
    (hs : swapsWith (.Call (.Attribute (.Name x p1) "extend" p2) [e] [] pc) none pos.line X.env = pure false := by rfl) :
    SD X W (.Expr (.Call (.Attribute (.Name x p1) "extend" p2) [e] [] pc) pos) (tDrop (tBM X.K "list" rExtend (tVar i) (tCons t tNil))) (mExt i m) := by
  refine ⟨ps_expr hpe hs, fun w G0 H0 σ env G H B D R h => ?_⟩
  unfold mExt at h
  split at h
  · rename_i xs q
    obtain ⟨p, vs, h1, g, h0, nb, hp, r⟩ := own_at R q
    refine ⟨_, h1, .inl ⟨rfl, _, SqL.of hp⟩, ?_⟩
    refine he.sem w G0 H0 σ env G H B _ R (PostS.bind R (Sub.refl _) h fun d B1 v G1 H1 s1 o1 d1 h2 => ?_)
    cases d with
    | list ys =>
      cases d1 with
      | lst hx ry =>
        rename_i a us
        by_cases hl : xs.length + ys.length ≤ sizeLine
        · simp only [if_pos hl] at h2
          have R1 := R.step s1 o1
          obtain ⟨p', vs', g1, g2, g3, g4, g5, g6⟩ := own_at R1 q
          rw [h1] at g1
          cases g1
          have hpp := s1.keep p _ nb.one (fun _ z => by cases z) hp
          rw [hpp] at g5
          cases g5
          exact ⟨p, a, vs, us, rfl, rfl, hpp, o1.sub _ _ hx, by rw [r.length, ry.length]; exact hl, h2 σ G1 _ (R1.upOwn i q h1 hpp (g6.append ry) g2 g3 g4) s1.exG⟩
        · simp only [if_neg hl] at h2; exact h2.elim
    | _ => exact (show False from h2).elim
  · exact h.elim

/-! ### list(zip(a, b)) -/
def zipP : List PD → Option PD
  | [.list xs, .list ys] => if xs.length = ys.length then some (.list (List.zipWith (fun x y => .tuple [x, y]) xs ys)) else none
  | [.tuple xs, .tuple ys] => if xs.length = ys.length then some (.list (List.zipWith (fun x y => .tuple [x, y]) xs ys)) else none
  | _ => none
def withNew (G H1 H2 : Hp) : Hp := fun c => match H1 c with
  | some _ => G c
  | none => H2 c
theorem pairs_dr {K : Fg} {G : Hp} : ∀ {Ts : List Addr} {xs ys : List V} {ds es : List PD}, DRs K G xs ds → DRs K G ys es → xs.length = ys.length → Ts.length = xs.length →
    (∀ (j : Nat) (T : Addr) (x y : V), Ts[j]? = some T → xs[j]? = some x → ys[j]? = some y → ∃ ob : Obj, G T = some (.frz ob (.tup [x, y])) ∧ ob.dict = none) → DRs K G (Ts.map V.ref) (List.zipWith (fun x y => .tuple [x, y]) ds es)
  | [], _, _, _, _, .nil, .nil, _, _, _ => .nil
  | T :: Ts, _, _, _, _, .cons hx rx, .cons hy ry, hl, ht, k => by
    obtain ⟨ob, k1, k2⟩ := k 0 T _ _ rfl rfl rfl
    refine .cons (.tup (PT.at k1 k2) (.cons hx (.cons hy .nil))) (pairs_dr rx ry ?_ ?_ fun j T x y e1 e2 e3 => k (j + 1) T x y (by simpa using e1) (by simpa using e2) (by simpa using e3))
    · simpa using hl
    · simpa using ht
  | [], _, _, _, _, .cons _ _, _, _, h, _ => by simp at h
  | _ :: _, _, _, _, _, .nil, _, _, h, _ => by simp at h
  | [], _, _, _, _, .nil, .cons _ _, h, _, _ => by simp at h
  | _ :: _, _, _, _, _, .cons _ _, .nil, h, _, _ => by simp at h
theorem ed_listZip {e e2 : Expr} {t : TA} {m : EnvM → Bag → Res (List SV)} {p0 p pos pos0 : Pos} (hc : X.calm = true) (hm0 : X.mg "list" = none) (hm : X.mg "zip" = none) (ha : AD X W [e, e2] t m) (hg0 : Gl X "list" := by rfl) (hg : Gl X "zip" := by rfl)
    (hs0 : starEach [.Call (.Name "zip" p) [e, e2] [] pos] X.env = (false, eval (.Call (.Name "zip" p) [e, e2] [] pos) X.env) :: starEach [] X.env := by rfl)
    (hs : starEach [e, e2] X.env = (false, eval e X.env) :: starEach [e2] X.env := by rfl) (hpl : (backTo pos (starEach [e2] X.env)).any (·.1) = false := by rfl) :
    ED X W (.Call (.Name "list" p0) [.Call (.Name "zip" p) [e, e2] [] pos] [] pos0) (ZL.tListZip X.K t) (mCa zipP m) := by
  refine ⟨ZL.pe_listZip hc hm0 hm ha.pe hg0 hg hs0 hs hpl, fun w G0 H0 σ env G H B Q R h => ?_⟩
  refine ha.sem w G0 H0 σ env G H B _ R (PostR.bind h fun ss B1 vs G1 H1 s1 o1 d1 h1 => ?_)
  cases eu : unD ss with
  | none => rw [eu] at h1; exact h1.elim
  | some ds =>
    rw [eu] at h1
    have r := d1.un eu
    have h1 : PostE X.K X.mg w G1 H1 (match zipP ds with | some z => .ok z B1 | none => .bad) Q (fun c d H' => W c d σ H') := h1
    have fin : ∀ (xs ys : List V) (es fs : List PD), DRs X.K G1 xs es → DRs X.K G1 ys fs → xs.length = ys.length → PostE X.K X.mg w G1 H1 (.ok (.list (List.zipWith (fun x y => .tuple [x, y]) es fs)) B1) Q (fun c d H' => W c d σ H') →
        ∀ (Ts : List Addr) (l : Addr) (H2 : Hp), Ts.length = xs.length → H1 l = none → (∀ T ∈ Ts, H1 T = none ∧ T ≠ l) → (∀ c o, H1 c = some o → H2 c = some o) → (∀ c o, H2 c = some o → H1 c = some o ∨ (H1 c = none ∧ (c = l ∨ c ∈ Ts))) → H2 l = some (.lst (Ts.map V.ref)) →
        (∀ (j : Nat) (T : Addr) (x y : V), Ts[j]? = some T → xs[j]? = some x → ys[j]? = some y → ∃ ob : Obj, H2 T = some (.frz ob (.tup [x, y])) ∧ ob.dict = none) → Q (.ref l) H2 := by
      intro xs ys es fs rx ry hl hp Ts l H2 tl hn hT old new hlst hpair
      have nw : ∀ c, H1 c = none → withNew G1 H1 H2 c = H2 c := fun c e => by unfold withNew; rw [e]
      have ow : ∀ c o, H1 c = some o → withNew G1 H1 H2 c = G1 c := fun c o e => by unfold withNew; rw [e]
      have st : Step w G1 H1 (withNew G1 H1 H2) H2 := by
        refine ⟨fun c o e => by rw [ow c _ (o1.sub c o e)]; exact e, fun c o e => ?_, fun c o _ _ e => old c o e, fun c o n e => ⟨o, n, old c o e⟩⟩
        cases q : H1 c with
        | none => exact .inr (.inl rfl)
        | some u => rw [ow c u q] at e; exact .inl e
      have o2 : Ok w (withNew G1 H1 H2) H2 B1 := by
        refine ⟨fun c o e => ?_, o1.bag.keep old, fun b l e => ?_, o1.tabs.ext old, fun c ps e => ?_, fun b l e => ?_⟩
        · cases q : H1 c with
          | none => rw [nw c q] at e; exact e
          | some u =>
            rw [ow c u q] at e
            exact old c o (o1.sub c o e)
        · obtain ⟨b1, _, _⟩ := o1.bag b l e
          rw [ow b _ b1]; exact o1.gb b l e
        · cases q : H1 c with
          | none =>
            rw [nw c q] at e
            rcases new c _ e with z | ⟨_, z | z⟩
            · rw [q] at z; cases z
            · subst z; rw [hlst] at e; cases e
            · obtain ⟨j, hj⟩ := List.mem_iff_getElem?.mp z
              have lj := (List.getElem?_eq_some_iff.mp hj).1
              have lj2 : j < xs.length := by omega
              have lj3 : j < ys.length := by omega
              obtain ⟨ob, z1, _⟩ := hpair j c _ _ hj (List.getElem?_eq_getElem lj2) (List.getElem?_eq_getElem lj3)
              rw [z1] at e
              cases e
          | some u => rw [ow c u q] at e; exact o1.gt c ps e
        · obtain ⟨_, _, b3⟩ := o1.bag b l e
          rw [ow l _ b3]; exact o1.gl b l e
      refine hp _ _ _ st o2 (.lst (by rw [nw l hn]; exact hlst) ?_)
      refine pairs_dr (rx.mono st.exG) (ry.mono st.exG) hl tl fun j T x y e1 e2 e3 => ?_
      rw [nw T (hT T (List.mem_iff_getElem?.mpr ⟨j, e1⟩)).1]
      exact hpair j T x y e1 e2 e3
    unfold zipP at h1
    split at h1
    · rename_i z q
      split at q
      · rename_i es fs
        obtain ⟨hl, rfl⟩ := some_if q
        match vs, r with
        | _, .cons (.lst ha1 ra) (.cons (.lst hb1 rb) .nil) =>
          have hl2 : _ := ra.length.trans (hl.trans rb.length.symm)
          exact ⟨_, _, _, _, rfl, .inl ⟨subL o1.sub ha1, subL o1.sub hb1⟩, hl2, fin _ _ _ _ ra rb hl2 h1⟩
      · rename_i es fs
        obtain ⟨hl, rfl⟩ := some_if q
        match vs, r with
        | _, .cons (.tup ha1 ra) (.cons (.tup hb1 rb) .nil) =>
          have hl2 : _ := ra.length.trans (hl.trans rb.length.symm)
          exact ⟨_, _, _, _, rfl, .inr ⟨subT o1.sub ha1, subT o1.sub hb1⟩, hl2, fin _ _ _ _ ra rb hl2 h1⟩
      · cases q
    · exact h1.elim
end
end DL
set_option Elab.async false
set_option linter.all false
set_option maxRecDepth 100000
set_option maxHeartbeats 2000000
/-! DL5: isinstance, comprehensions, defs. -/
namespace DL
open PySem L2 C8
open ZT (PT)
def W0 : WX := fun _ _ _ _ => False
section
variable {X : Cx} {W : WX}
/-! ### isinstance -/
def tyN : PD → String
  | .none => "NoneType"
  | .bool _ => "bool"
  | .int _ => "int"
  | .str _ => "str"
  | .list _ => "list"
  | .tuple _ => "tuple"
  | .dict _ => "dict"
theorem tyX_of {K : Fg} {G H : Hp} {v : V} {d : PD} (s : Sub G H) (r : DR K G v d) : TyX K H v (.type (tyN d)) := by
  cases r with
  | non => exact .base .non
  | bl b => exact .base (.bl b)
  | int i => exact .base (.int i)
  | str x => exact .base (.str x)
  | lst h r => exact .base (.lst (s _ _ h))
  | dct h r => exact .base (.dK (s _ _ h))
  | tup h r =>
    rcases h with ⟨o, h, _⟩ | ⟨o, its, n, h1, h2, _⟩
    · exact .fTuple (s _ _ h)
    · exact .kTuple h1 h2
def isTT (T : String) (d : PD) : Bool := match kitB (tyN d) T with
  | some b => b
  | none => false
def isIntB : PD → Bool
  | .int _ => true
  | .bool _ => true
  | _ => false
def isBoolB : PD → Bool
  | .bool _ => true
  | _ => false
def isStrB : PD → Bool
  | .str _ => true
  | _ => false
def isListB : PD → Bool
  | .list _ => true
  | _ => false
def isTupB : PD → Bool
  | .tuple _ => true
  | _ => false
def isDictB : PD → Bool
  | .dict _ => true
  | _ => false
theorem kit_int : ∀ d : PD, kitB (tyN d) "int" = some (isIntB d)
  | .none => (by decide +kernel : kitB "NoneType" "int" = some false)
  | .bool b => (by decide +kernel : kitB "bool" "int" = some true)
  | .int b => (by decide +kernel : kitB "int" "int" = some true)
  | .str b => (by decide +kernel : kitB "str" "int" = some false)
  | .list b => (by decide +kernel : kitB "list" "int" = some false)
  | .tuple b => (by decide +kernel : kitB "tuple" "int" = some false)
  | .dict b => (by decide +kernel : kitB "dict" "int" = some false)
theorem kit_bool : ∀ d : PD, kitB (tyN d) "bool" = some (isBoolB d)
  | .none => (by decide +kernel : kitB "NoneType" "bool" = some false)
  | .bool b => (by decide +kernel : kitB "bool" "bool" = some true)
  | .int b => (by decide +kernel : kitB "int" "bool" = some false)
  | .str b => (by decide +kernel : kitB "str" "bool" = some false)
  | .list b => (by decide +kernel : kitB "list" "bool" = some false)
  | .tuple b => (by decide +kernel : kitB "tuple" "bool" = some false)
  | .dict b => (by decide +kernel : kitB "dict" "bool" = some false)
theorem kit_str : ∀ d : PD, kitB (tyN d) "str" = some (isStrB d)
  | .none => (by decide +kernel : kitB "NoneType" "str" = some false)
  | .bool b => (by decide +kernel : kitB "bool" "str" = some false)
  | .int b => (by decide +kernel : kitB "int" "str" = some false)
  | .str b => (by decide +kernel : kitB "str" "str" = some true)
  | .list b => (by decide +kernel : kitB "list" "str" = some false)
  | .tuple b => (by decide +kernel : kitB "tuple" "str" = some false)
  | .dict b => (by decide +kernel : kitB "dict" "str" = some false)
theorem kit_list : ∀ d : PD, kitB (tyN d) "list" = some (isListB d)
  | .none => (by decide +kernel : kitB "NoneType" "list" = some false)
  | .bool b => (by decide +kernel : kitB "bool" "list" = some false)
  | .int b => (by decide +kernel : kitB "int" "list" = some false)
  | .str b => (by decide +kernel : kitB "str" "list" = some false)
  | .list b => (by decide +kernel : kitB "list" "list" = some true)
  | .tuple b => (by decide +kernel : kitB "tuple" "list" = some false)
  | .dict b => (by decide +kernel : kitB "dict" "list" = some false)
theorem kit_tuple : ∀ d : PD, kitB (tyN d) "tuple" = some (isTupB d)
  | .none => (by decide +kernel : kitB "NoneType" "tuple" = some false)
  | .bool b => (by decide +kernel : kitB "bool" "tuple" = some false)
  | .int b => (by decide +kernel : kitB "int" "tuple" = some false)
  | .str b => (by decide +kernel : kitB "str" "tuple" = some false)
  | .list b => (by decide +kernel : kitB "list" "tuple" = some false)
  | .tuple b => (by decide +kernel : kitB "tuple" "tuple" = some true)
  | .dict b => (by decide +kernel : kitB "dict" "tuple" = some false)
theorem kit_dict : ∀ d : PD, kitB (tyN d) "dict" = some (isDictB d)
  | .none => (by decide +kernel : kitB "NoneType" "dict" = some false)
  | .bool b => (by decide +kernel : kitB "bool" "dict" = some false)
  | .int b => (by decide +kernel : kitB "int" "dict" = some false)
  | .str b => (by decide +kernel : kitB "str" "dict" = some false)
  | .list b => (by decide +kernel : kitB "list" "dict" = some false)
  | .tuple b => (by decide +kernel : kitB "tuple" "dict" = some false)
  | .dict b => (by decide +kernel : kitB "dict" "dict" = some true)
def mIsi (f : PD → Bool) (m : EnvM → Bag → Res PD) : EnvM → Bag → Res PD := fun env B => (m env B).bind fun d B1 => .ok (.bool (f d)) B1
theorem ed_isi {e : Expr} {t : TE} {m : EnvM → Bag → Res PD} {T : String} {f : PD → Bool} {x : Str} {p p2 pos : Pos} (hf : ∀ d, kitB (tyN d) T = some (f d)) (hm : X.mg "isinstance" = none) (hmT : X.mg x = none) (he : ED X W e t m) (hv : bootBuiltins x = some (.type T)) (hg : Gl X "isinstance" := by rfl) (hgT : Gl X x := by rfl)
    (hn : x ≠ "__name__" := by decide) (hd : (x == ("__debug__" : Str)) = false := by decide)
    (h1 : starEach [e, .Name x p2] X.env = (false, eval e X.env) :: starEach [.Name x p2] X.env := by rfl) (h2 : starEach [.Name x p2] X.env = (false, eval (.Name x p2) X.env) :: starEach [] X.env := by rfl) (hpl : (backTo pos (starEach [.Name x p2] X.env)).any (·.1) = false := by rfl) :
    ED X W (.Call (.Name "isinstance" p) [e, .Name x p2] [] pos) (tCB (rIsi X.K) (tCons t (tCons (tC (.ty T)) tNil))) (mIsi f m) := by
  refine ⟨pe_callB call_isi hg hm PyProof.Rows.boot_isinstance (pa_cons he.pe (pa_cons (pe_bltn hgT hmT hv rfl hn hd) pa_nil h2) h1) (by decide) (by decide) h1 hpl, fun w G0 H0 σ env G H B Q R h => ?_⟩
  refine he.sem w G0 H0 σ env G H B _ R (PostR.bind h fun d B1 v G1 H1 s1 o1 d1 h1 => ?_)
  exact ⟨v, .ty T, _, _, f d, rfl, .ty T, tyX_of o1.sub d1, kit_ty (hf d), h1 _ G1 H1 Step.refl o1 (.bl _)⟩
/-- isinstance(x, (T1, T2)) -/
def mIsi2 (f g : PD → Bool) (m : EnvM → Bag → Res PD) : EnvM → Bag → Res PD := fun env B => (m env B).bind fun d B1 => .ok (.bool (f d || g d)) B1
theorem ed_isi2 {e : Expr} {t : TE} {m : EnvM → Bag → Res PD} {T T' : String} {f g : PD → Bool} {x y : Str} {p p2 p3 pt pos : Pos} {k} (hf : ∀ d, kitB (tyN d) T = some (f d)) (hg' : ∀ d, kitB (tyN d) T' = some (g d)) (hm : X.mg "isinstance" = none) (hmT : X.mg x = none) (hmT' : X.mg y = none) (he : ED X W e t m)
    (hv : bootBuiltins x = some (.type T)) (hv' : bootBuiltins y = some (.type T')) (hg : Gl X "isinstance" := by rfl) (hgT : Gl X x := by rfl) (hgT' : Gl X y := by rfl)
    (hn : x ≠ "__name__" := by decide) (hd : (x == ("__debug__" : Str)) = false := by decide) (hn' : y ≠ "__name__" := by decide) (hd' : (y == ("__debug__" : Str)) = false := by decide)
    (h1 : starEach [e, .Tuple [.Name x p2, .Name y p3] k pt] X.env = (false, eval e X.env) :: starEach [.Tuple [.Name x p2, .Name y p3] k pt] X.env := by rfl)
    (h2 : starEach [.Tuple [.Name x p2, .Name y p3] k pt] X.env = (false, eval (.Tuple [.Name x p2, .Name y p3] k pt) X.env) :: starEach [] X.env := by rfl)
    (h3 : starEach [.Name x p2, .Name y p3] X.env = (false, eval (.Name x p2) X.env) :: starEach [.Name y p3] X.env := by rfl) (h4 : starEach [.Name y p3] X.env = (false, eval (.Name y p3) X.env) :: starEach [] X.env := by rfl)
    (hpl : (backTo pos (starEach [.Tuple [.Name x p2, .Name y p3] k pt] X.env)).any (·.1) = false := by rfl) :
    ED X W (.Call (.Name "isinstance" p) [e, .Tuple [.Name x p2, .Name y p3] k pt] [] pos) (tCB (rIsiT X.K) (tCons t (tCons (tTup (tCons (tC (.ty T)) (tCons (tC (.ty T')) tNil))) tNil))) (mIsi2 f g m) := by
  refine ⟨pe_callB call_isiT hg hm PyProof.Rows.boot_isinstance (pa_cons he.pe (pa_cons (pe_tup (pa_cons (pe_bltn hgT hmT hv rfl hn hd) (pa_cons (pe_bltn hgT' hmT' hv' rfl hn' hd') pa_nil h4) h3)) pa_nil h2) h1) (by decide) (by decide) h1 hpl, fun w G0 H0 σ env G H B Q R h => ?_⟩
  refine he.sem w G0 H0 σ env G H B _ R (PostR.bind h fun d B1 v G1 H1 s1 o1 d1 h1 => ?_)
  refine ⟨(by decide : 2 ≤ sizeLine), fun p hp => ?_⟩
  have s2 : Step w G1 H1 G1 (upd H1 p (.tup [.ty T, .ty T'])) := Step.newH hp
  have o2 := o1.newH (o := .tup [.ty T, .ty T']) hp
  refine ⟨v, p, _, _, _, (f d || g d), rfl, upd_same, .cons (.ty T) (.cons (.ty T') .nil), tyX_of o2.sub d1, ?_, h1 _ G1 _ s2 o2 (.bl _)⟩
  refine kitAny_cons (b := f d) (kit_ty (hf d)) (fun e1 => ?_) fun e1 => by rw [e1]; rfl
  rw [e1, Bool.false_or]
  exact kitAny_cons (b := g d) (kit_ty (hg' d)) (fun e2 => by rw [e2]; exact kitAny_nil) fun e2 => e2

/-! ### freezing -/
theorem Step.notIn {w : Wd} {G H G' H' : Hp} {D : Addr} {o : HO} (s : Step w G H G' H') (g : G D = none) (h : H D = some o) (nt : ∀ ps, o ≠ .tbl ps := by intro _ z; cases z) : G' D = none := by
  cases q : G' D with
  | none => rfl
  | some u =>
    rcases s.fr D u q with z | z
    · rw [g] at z; cases z
    · exact absurd rfl (z.ne h nt)
theorem Step.mutNew {w : Wd} {G1 H1 G H : Hp} {D : Addr} {o : HO} (s : Step w G1 H1 G H) (h : H1 D = none) : Step w G1 H1 G (upd H D o) :=
  ⟨s.exG, s.fr, fun a u n nt q => by rw [upd_ne (ne_of_none q h)]; exact s.keep a u n nt q, fun a u n q => by rw [upd_ne (ne_of_none q h)]; exact s.there a u n q⟩
theorem Step.freeze {w : Wd} {G1 H1 G H : Hp} {D : Addr} {o : HO} (s : Step w G1 H1 G H) (g : G D = none) (h : NN (H1 D)) : Step w G1 H1 (upd G D o) H := by
  refine ⟨fun a u q => ?_, fun a u q => ?_, s.keep, s.there⟩
  · have q1 := s.exG a u q
    rw [upd_ne (ne_of_none q1 g)]; exact q1
  · by_cases e : a = D
    · subst e; exact .inr h
    · rw [upd_ne e] at q; exact s.fr a u q
theorem Ok.freeze {w : Wd} {G H : Hp} {B : Bag} {D : Addr} {o : HO} (k : Ok w G H B) (n : Nb w D) (h : H D = some o) (nt : ∀ ps, o ≠ .tbl ps := by intro _ z; cases z) : Ok w (upd G D o) H B := by
  refine ⟨fun a u q => ?_, k.bag, fun b l e => ?_, k.tabs, gt_upd k.gt nt, fun b l e => ?_⟩
  · by_cases e : a = D
    · subst e; rw [upd_same] at q; cases q; exact h
    · rw [upd_ne e] at q; exact k.sub a u q
  · rw [upd_ne (n.1 b l e).1]; exact k.gb b l e
  · rw [upd_ne (n.1 b l e).2]; exact k.gl b l e
theorem sub_upd {G : Hp} {D : Addr} {o : HO} (g : G D = none) : Sub G (upd G D o) := fun a u q => by rw [upd_ne (ne_of_none q g)]; exact q

/-! ### comprehensions -/
structure TDs (X : Cx) (W : WX) (ifs : List Expr) (t : TT) (m : EnvM → Bag → Res Bool) : Prop where
  pe : PTs X ifs t
  sem : ∀ (w : Wd) (G0 H0 : Hp) (σ : L2.St) (env : EnvM) (G H : Hp) (B : Bag) (Q : Bool → Hp → Prop), Rel X.K w G0 H0 σ env G H B →
    PostT X.K X.mg w G H (m env B) Q (fun c d H' => W c d σ H') → t σ H Q
def mYes : EnvM → Bag → Res Bool := fun _ B => .ok true B
theorem tds_nil : TDs X W [] tYes mYes := ⟨pts_nil, fun w G0 H0 σ env G H B Q R h => h true G H Step.refl R.ok rfl⟩
theorem tds_one {c : Expr} {t : TT} {m : EnvM → Bag → Res Bool} (h : TD X W c t m) : TDs X W [c] t m := ⟨pts_one h.pe, h.sem⟩
theorem wipe_wipe {σ : L2.St} {vs : List Nat} : ∀ us : List Nat, (∀ u ∈ us, u ∈ vs) → wipe (wipe σ us) vs = wipe σ vs
  | [], _ => rfl
  | u :: us, h => by
    show wipe ((wipe σ us).set u none) vs = _
    rw [wipe_set (h u List.mem_cons_self)]
    exact wipe_wipe us fun z hz => h z (List.mem_cons_of_mem _ hz)
def mLcGo (g : PD → EnvM → Option EnvM) (c : EnvM → Bag → Res Bool) (m : EnvM → Bag → Res PD) (env0 : EnvM) : List PD → Bag → Res (List PD)
  | [], B => .ok [] B
  | d :: ds, B => match g d env0 with
    | none => .bad
    | some e1 => match c e1 B with
      | .ok true B1 => (match m e1 B1 with
        | .ok y B2 => (match mLcGo g c m env0 ds B2 with
          | .ok ys B3 => .ok (y :: ys) B3
          | _ => .bad)
        | _ => .bad)
      | .ok false B1 => mLcGo g c m env0 ds B1
      | _ => .bad
def mLc (vs : List Nat) (mi : EnvM → Bag → Res (List PD)) (g : PD → EnvM → Option EnvM) (c : EnvM → Bag → Res Bool) (m : EnvM → Bag → Res PD) : EnvM → Bag → Res PD := fun env B => (mi env B).bind fun ds B1 =>
  if ds.length ≤ sizeLine then (match mLcGo g c m (wipeE env vs) ds B1 with
    | .ok ys B2 => .ok (.list ys) B2
    | _ => .bad) else .bad
/-- the end of a list that is being made -/
def lcEnd (acc : List PD) : Res (List PD) → Res PD
  | .ok ys B => .ok (.list (acc ++ ys)) B
  | _ => .bad
theorem lc_sem {st : Bool} {elt tg iter : Expr} {ifs : List Expr} {scope : Scope} {own : List (Str × Nat)} {wi : TI} {g : TG} {tt : TT} {te : TE} {mi : EnvM → Bag → Res (List PD)} {mgt : PD → EnvM → Option EnvM} {mt : EnvM → Bag → Res Bool} {me : EnvM → Bag → Res PD} {js : List Nat} (hi : WI X W st tg iter wi mi)
    (hg : ∀ (s : Shared) (H : Hp) (C : Addr) (cl : List (Str × Addr)) (fp : List Addr), GT (X.blk s H scope (compEnvC scope cl C X.env) fp) st tg g mgt js) (ht : ∀ (s : Shared) (H : Hp) (C : Addr) (cl : List (Str × Addr)) (fp : List Addr), TDs (X.blk s H scope (compEnvC scope cl C X.env) fp) W0 ifs tt mt)
    (he : ∀ (s : Shared) (H : Hp) (C : Addr) (cl : List (Str × Addr)) (fp : List Addr), ED (X.blk s H scope (compEnvC scope cl C X.env) fp) W0 elt te me) (hjs : ∀ j ∈ js, j ∈ own.map (·.2))
    (w : Wd) (G0 H0 : Hp) (σ : L2.St) (env : EnvM) (G H : Hp) (B : Bag) (Q : VK) (R : Rel X.K w G0 H0 σ env G H B) (h : PostE X.K X.mg w G H (mLc (own.map (·.2)) mi mgt mt me env B) Q (fun c d H' => W c d σ H')) :
    tLc wi g tt te (own.map (·.2)) σ H Q := by
  have gg := hg X.s_0 X.H_0 0 [] []
  have tt' := ht X.s_0 X.H_0 0 [] []
  have ee := he X.s_0 X.H_0 0 [] []
  generalize hvs : own.map (·.2) = vs at *
  refine hi.sem w G0 H0 σ env G H B _ R (PostR.bind h fun ds B1 J G1 H1 s1 o1 wk h1 => ?_)
  by_cases hl : ds.length ≤ sizeLine
  · rw [if_pos hl] at h1
    have R1 := R.step s1 o1
    intro D hD
    have nD : Nb w D := o1.nb hD
    have p0 : PostE X.K X.mg w G1 H1 (lcEnd [] (mLcGo mgt mt me (wipeE env vs) ds B1)) Q (fun c d H' => W c d σ H') := by
      unfold lcEnd
      split at h1
      · exact h1
      · exact h1.elim
    refine ⟨fun i m H => m = ds.length - i ∧ i ≤ ds.length ∧ ∃ G' B acc ac, Step w G1 H1 G' H ∧ Ok w G' H B ∧ G' D = none ∧ H D = some (.lst acc) ∧ DRs X.K G' acc ac ∧ acc.length ≤ i ∧ PostE X.K X.mg w G1 H1 (lcEnd ac (mLcGo mgt mt me (wipeE env vs) (ds.drop i) B)) Q (fun c d H' => W c d σ H'),
      ⟨ds.length, by simp, Nat.zero_le _, G1, B1, [], [], Step.newH hD, o1.newH hD, o1.free hD, upd_same, .nil, Nat.le_refl _, p0⟩, ?_⟩
    rintro i m H2 ⟨rfl, hin, G2, B2, acc, ac, s2, o2, g2, hD2, ra, la, p2⟩
    by_cases hlt : i < ds.length
    · right
      have hd : ds[i]? = some ds[i] := by simp [hlt]
      rw [List.drop_eq_getElem_cons hlt] at p2
      refine ⟨wk.go i H2 _ (Sub.trans s2.exG o2.sub) hd, fun H => ∃ G' B acc ac, Step w G1 H1 G' H ∧ Ok w G' H B ∧ G' D = none ∧ H D = some (.lst acc) ∧ DRs X.K G' acc ac ∧ acc.length ≤ i + 1 ∧ PostE X.K X.mg w G1 H1 (lcEnd ac (mLcGo mgt mt me (wipeE env vs) (ds.drop (i + 1)) B)) Q (fun c d H' => W c d σ H'),
        fun H' q => ⟨ds.length - (i + 1), by omega, rfl, hlt, q⟩, fun x H3 y => ?_⟩
      obtain ⟨G3, s3, o3, d3⟩ := wk.yld i w G2 H2 B2 x H3 _ o2 s2.exG hd y
      unfold mLcGo at p2
      cases q : mgt ds[i] (wipeE env vs) with
      | none => rw [q] at p2; exact p2.elim
      | some env3 =>
        rw [q] at p2
        have s13 := s2.trans s3
        refine gg.sem w G0 H0 (wipe σ vs) (wipeE env vs) G3 H3 B2 x _ env3 _ ((R1.step s13 o3).wipe vs) d3 q fun σ4 R4 w4 => ⟨?_, ?_⟩
        · rw [w4 vs hjs]; exact wipe_wipe vs fun _ z => z
        · cases z : mt env3 B2 with
          | bad => simp only [z] at p2; exact p2.elim
          | exc c as B4 => simp only [z] at p2; exact p2.elim
          | ok b B4 =>
            refine tt'.sem w G0 H0 σ4 env3 G3 H3 B2 _ R4 ?_
            rw [z]
            intro b' G5 H5 s5 o5 eb
            subst eb
            have s15 := s13.trans s5
            have g3 : G3 D = none := s3.notIn g2 hD2
            have hD3 := s3.keep D _ nD.one (fun _ z => by cases z) hD2
            have g5 : G5 D = none := s5.notIn g3 hD3
            have hD5 := s5.keep D _ nD.one (fun _ z => by cases z) hD3
            cases b' with
            | false =>
              simp only [z] at p2
              exact ⟨G5, B4, acc, ac, s15, o5, g5, hD5, (ra.mono s3.exG).mono s5.exG, by omega, p2⟩
            | true =>
              simp only [z] at p2
              cases z2 : me env3 B4 with
              | bad => simp only [z2] at p2; exact p2.elim
              | exc c as B6 => simp only [z2] at p2; exact p2.elim
              | ok y B6 =>
                simp only [z2] at p2
                show te σ4 H5 _
                refine ee.sem w G0 H0 σ4 env3 G5 H5 B4 _ (R4.step s5 o5) ?_
                rw [z2]
                intro yv G7 H7 s7 o7 d7
                have g7 : G7 D = none := s7.notIn g5 hD5
                have hD7 := s7.keep D _ nD.one (fun _ z => by cases z) hD5
                have s17 := s15.trans s7
                refine ⟨acc, hD7, by omega, G7, B6, acc ++ [yv], ac ++ [y], s17.mutNew hD, o7.mut g7 nD (fun _ => by rw [hD7]; exact noCo (fun _ z => by cases z)), g7, upd_same, (((ra.mono s3.exG).mono s5.exG).mono s7.exG).append (.cons d7 .nil), by rw [List.length_append]; simp; omega, ?_⟩
                cases z3 : mLcGo mgt mt me (wipeE env vs) (ds.drop (i + 1)) B6 with
                | bad => simp only [z3] at p2; exact p2.elim
                | exc c as B8 => simp only [z3] at p2; exact p2.elim
                | ok ys B8 =>
                  simp only [z3, lcEnd] at p2 ⊢
                  rw [List.append_assoc]
                  exact p2
    · left
      have e : i = ds.length := by omega
      subst e
      rw [List.drop_length] at p2
      refine ⟨wk.stop _ H2 (Sub.trans s2.exG o2.sub) (Nat.le_refl _), ?_⟩
      have p2 : PostE X.K X.mg w G1 H1 (.ok (.list (ac ++ [])) B2) Q (fun c d H' => W c d σ H') := p2
      rw [List.append_nil] at p2
      exact p2 _ (upd G2 D (.lst acc)) H2 (s2.freeze g2 (.inl hD)) (o2.freeze nD hD2) (.lst upd_same (ra.mono (sub_upd g2)))
  · rw [if_neg hl] at h1; exact h1.elim
theorem ed_lc {st : Bool} {elt tg iter : Expr} {ifs : List Expr} {scope : Scope} (own : List (Str × Nat)) {pos : Pos} {wi : TI} {g : TG} {tt : TT} {te : TE} {mi : EnvM → Bag → Res (List PD)} {mgt : PD → EnvM → Option EnvM} {mt : EnvM → Bag → Res Bool} {me : EnvM → Bag → Res PD} {js : List Nat} (hc : X.calm = true) (hN : X.N.Nodup) (hi : WI X W st tg iter wi mi)
    (hg : ∀ (s : Shared) (H : Hp) (C : Addr) (cl : List (Str × Addr)) (fp : List Addr), GT (X.blk s H scope (compEnvC scope cl C X.env) fp) st tg g mgt js) (ht : ∀ (s : Shared) (H : Hp) (C : Addr) (cl : List (Str × Addr)) (fp : List Addr), TDs (X.blk s H scope (compEnvC scope cl C X.env) fp) W0 ifs tt mt)
    (he : ∀ (s : Shared) (H : Hp) (C : Addr) (cl : List (Str × Addr)) (fp : List Addr), ED (X.blk s H scope (compEnvC scope cl C X.env) fp) W0 elt te me) (ok : blkC X.N X.env.scope scope own = true := by rfl) (hjs : ∀ j ∈ js, j ∈ own.map (·.2) := by decide) (hs : ∀ x, foldedSetIterable iter X.env x = pure x := by intro _; rfl) :
    ED X W (.ListComp elt [⟨tg, iter, ifs, 0⟩] scope pos) (tLc wi g tt te (own.map (·.2))) (mLc (own.map (·.2)) mi mgt mt me) :=
  ⟨pe_lc hc hN hi.pe (blkOk_by ok) (fun s H C cl fp => (hg s H C cl fp).pg) (fun s H C cl fp => (ht s H C cl fp).pe) (fun s H C cl fp => (he s H C cl fp).pe) hs, lc_sem hi hg ht he hjs⟩
theorem sd_setLc {st : Bool} (i : Nat) {y : Str} {py : Pos} {elt tg iter : Expr} {ifs : List Expr} {scope : Scope} (own : List (Str × Nat)) {pos spos : Pos} {wi : TI} {g : TG} {tt : TT} {te : TE} {mi : EnvM → Bag → Res (List PD)} {mgt : PD → EnvM → Option EnvM} {mt : EnvM → Bag → Res Bool} {me : EnvM → Bag → Res PD} {js : List Nat} (hc : X.calm = true) (hN : X.N.Nodup) (hi : WI X W st tg iter wi mi)
    (hg : ∀ (s : Shared) (H : Hp) (C : Addr) (cl : List (Str × Addr)) (fp : List Addr), GT (X.blk s H scope (compEnvC scope cl C X.env) fp) st tg g mgt js) (ht : ∀ (s : Shared) (H : Hp) (C : Addr) (cl : List (Str × Addr)) (fp : List Addr), TDs (X.blk s H scope (compEnvC scope cl C X.env) fp) W0 ifs tt mt)
    (he : ∀ (s : Shared) (H : Hp) (C : Addr) (cl : List (Str × Addr)) (fp : List Addr), ED (X.blk s H scope (compEnvC scope cl C X.env) fp) W0 elt te me) (ok : blkC X.N X.env.scope scope own = true := by rfl) (hjs : ∀ j ∈ js, j ∈ own.map (·.2) := by decide) (hs : ∀ x, foldedSetIterable iter X.env x = pure x := by intro _; rfl)
    (hy : X.N[i]? = some y := by rfl) (hyl : X.env.scope.names.lookup y = some .local := by rfl) (hsw : swapsWith (.ListComp elt [⟨tg, iter, ifs, 0⟩] scope pos) (some (.Name y py)) spos.line X.env = pure true := by rfl) :
    SD X W (.Assign [.Name y py] (.ListComp elt [⟨tg, iter, ifs, 0⟩] scope pos) spos) (tAsg (tLc wi g tt te (own.map (·.2))) (gName i)) (mSet (mgName i) (mLc (own.map (·.2)) mi mgt mt me)) := by
  refine ⟨ps_setLc hc hN hy hyl hsw hi.pe (blkOk_by ok) (fun s H C cl fp => (hg s H C cl fp).pg) (fun s H C cl fp => (ht s H C cl fp).pe) (fun s H C cl fp => (he s H C cl fp).pe) hs, fun w G0 H0 σ env G H B D R h => ?_⟩
  refine lc_sem hi hg ht he hjs w G0 H0 σ env G H B _ R (PostS.bind R (Sub.refl _) h fun d B1 v G1 H1 s1 o1 d1 h1 => ?_)
  exact h1 _ G1 H1 ((R.step s1 o1).set i d1) s1.exG

/-! ### a list of one's own becomes data -/
def frz (i : Nat) (env : EnvM) : EnvM := match env[i]? with
  | some (some (.own xs)) => env.set i (some (.d (.list xs)))
  | _ => env
def mFrz (i : Nat) (m : EnvM → Bag → SRes) : EnvM → Bag → SRes := fun env B => m (frz i env) B
theorem Rel.freeze {K : Fg} {w : Wd} {G0 H0 : Hp} {σ : L2.St} {env : EnvM} {G H : Hp} {B : Bag} (R : Rel K w G0 H0 σ env G H B) (i : Nat) : ∃ G', Sub G G' ∧ Rel K w G0 H0 σ (frz i env) G' H B := by
  unfold frz
  split
  · rename_i xs q
    obtain ⟨p, vs, h1, g, h0, nb, hp, r⟩ := own_at R q
    have sg : Sub G (upd G p (.lst vs)) := sub_upd g
    refine ⟨upd G p (.lst vs), sg, ?_⟩
    have hi : i < env.length := (List.getElem?_eq_some_iff.mp q).1
    refine ⟨R.ok.freeze nb hp, R.ent.freeze g h0, by rw [List.length_set]; exact R.len, fun j sv ej => ?_, fun j k sj sk z hjk ej oj ek ok => ?_, R.wk⟩
    · by_cases hij : i = j
      · subst hij
        rw [List.getElem?_set_self hi] at ej
        cases ej
        exact ⟨_, h1, .lst upd_same (r.mono sg)⟩
      · rw [List.getElem?_set_ne hij] at ej
        obtain ⟨v, e1, e2⟩ := R.slot j sv ej
        refine ⟨v, e1, ?_⟩
        cases sv with
        | d x => exact DR.mono sg e2
        | bag => exact e2
        | own ys =>
          obtain ⟨p', us, e3, g', h0', hb', hp', r'⟩ := e2
          subst e3
          have npp : p' ≠ p := fun z => by
            subst z
            exact R.dist i j _ _ p' hij q rfl ej rfl h1 e1
          exact ⟨p', us, rfl, by rw [upd_ne npp]; exact g', h0', hb', hp', r'.mono sg⟩
        | ownD ys =>
          obtain ⟨p', us, e3, g', h0', hb', hp', r'⟩ := e2
          subst e3
          have npp : p' ≠ p := fun z => by
            subst z
            exact R.dist i j _ _ p' hij q rfl ej rfl h1 e1
          exact ⟨p', us, rfl, by rw [upd_ne npp]; exact g', h0', hb', hp', r'.mono sg⟩
    · have back : ∀ (j : Nat) (sj : SV), (env.set i (some (.d (.list xs))))[j]? = some (some sj) → sj.isOwn = true → env[j]? = some (some sj) := fun j sj ej oj => by
        by_cases hij : i = j
        · subst hij
          rw [List.getElem?_set_self hi] at ej
          cases ej; cases oj
        · rw [List.getElem?_set_ne hij] at ej; exact ej
      exact R.dist j k sj sk z hjk (back j sj ej oj) oj (back k sk ek ok) ok
  · exact ⟨G, Sub.refl G, R⟩
theorem sds_frz (i : Nat) {sts : List Stmt} {t : TS} {m : EnvM → Bag → SRes} (h : SDs X W sts t m) : SDs X W sts t (mFrz i m) := by
  refine ⟨h.pe, fun w G0 H0 σ env G H B D R hp => ?_⟩
  obtain ⟨G', s, R'⟩ := R.freeze i
  exact h.sem w G0 H0 σ (frz i env) G' H B D R' (PostS.sub s hp)

/-! ### defs -/
def SpF (K : Fg) (mg : Str → Option Value) (np : Nat) (m : List SV → Bag → Res PD) : Sp := fun vs H Q E => vs.length = np ∧ ∃ (w : Wd) (G : Hp) (B : Bag) (ss : List SV), Ok w G H B ∧ w.tb = TK K ∧ ARs K w G vs ss ∧ PostE K mg w G H (m ss B) Q (fun _ _ _ => False)
theorem ARs.length {K : Fg} {w : Wd} {G : Hp} : ∀ {vs : List V} {ss : List SV}, ARs K w G vs ss → vs.length = ss.length
  | _, _, .nil => rfl
  | _, _, .cons _ r => by rw [List.length_cons, List.length_cons, ARs.length r]
theorem ARs.get {K : Fg} {w : Wd} {G : Hp} : ∀ {vs : List V} {ss : List SV} {i : Nat} {s : SV}, ARs K w G vs ss → ss[i]? = some s → ∃ v, vs[i]? = some v ∧ AR K w G v s
  | _, _, _, _, .nil, h => by simp at h
  | _, _, 0, _, .cons (v := v) h r, e => by
    rw [List.getElem?_cons_zero] at e
    cases e
    exact ⟨v, by rw [List.getElem?_cons_zero], h⟩
  | _, _, i + 1, _, .cons h r, e => by
    rw [List.getElem?_cons_succ] at e
    obtain ⟨v, h1, h2⟩ := ARs.get r e
    exact ⟨v, by rw [List.getElem?_cons_succ]; exact h1, h2⟩
def env0 (n : Nat) (ss : List SV) : EnvM := ss.map some ++ List.replicate (n - ss.length) none
def resOf : SRes → Res PD
  | .nx _ B => .ok .none B
  | .ret d B => .ok d B
  | .exc c as _ B => .exc c as B
  | _ => .bad
def mFn (n : Nat) (m : EnvM → Bag → SRes) : List SV → Bag → Res PD := fun ss B => resOf (m (env0 n ss) B)
theorem start_rel {K : Fg} {w : Wd} {G H : Hp} {B : Bag} {N : List Str} {vs : List V} {ss : List SV} (o : Ok w G H B) (wk : w.tb = TK K) (r : ARs K w G vs ss) : Rel K w G H (L2.start N vs) (env0 N.length ss) G H B := by
  have rl := r.length
  have get : ∀ (i : Nat) (sv : SV), (env0 N.length ss)[i]? = some (some sv) → ss[i]? = some sv := fun i sv e => by
    unfold env0 at e
    by_cases hi : i < ss.length
    · rw [List.getElem?_append_left (by simpa using hi), List.getElem?_map] at e
      cases q : ss[i]? with
      | none => rw [q] at e; cases e
      | some s => rw [q] at e; cases e; rfl
    · rw [List.getElem?_append_right (by simpa using hi), List.getElem?_replicate] at e
      split at e <;> cases e
  have noOwn : ∀ (i : Nat) (sv : SV), (env0 N.length ss)[i]? = some (some sv) → sv.isOwn = true → False := fun i sv e ow => by
    obtain ⟨v, _, h2⟩ := r.get (get i sv e)
    cases sv with
    | own xs => exact h2
    | ownD xs => exact h2
    | d x => cases ow
    | bag => cases ow
  refine ⟨o, Step.refl, by unfold env0 L2.start; simp [rl], fun i sv e => ?_, fun i j si sj p _ e1 o1 _ _ => (noOwn i si e1 o1).elim, wk⟩
  have e1 := get i sv e
  obtain ⟨v, h1, h2⟩ := r.get e1
  refine ⟨v, ?_, ?_⟩
  · unfold L2.start
    have hi : i < vs.length := (List.getElem?_eq_some_iff.mp h1).1
    rw [List.getElem?_append_left (by simpa using hi), List.getElem?_map, h1]
    rfl
  · cases sv with
    | d x => exact h2
    | own xs => exact h2.elim
    | bag => exact h2
    | ownD xs => exact h2.elim
abbrev BX (P : Program) (w : World) (K : Fg) (mg : Str → Option Value) (base : Heap) (N : List Str) (x : Str) (st : Stmt) (f : Addr) (cdv : Value) (A : Around) (outer : List Env) (s : Shared) (H : Hp) (E : XK) : Cx := (cxOf C8.CX0 P w K mg base N x (fnScope st) f cdv A outer s H E).nox
theorem def_ok {P : Program} {w : World} {K : Fg} {mg : Str → Option Value} {base : Heap} {x : Str} {st : Stmt} {f : Addr} {fd : FuncData} {N ps : List Str} {k n : Nat} {m : EnvM → Bag → SRes} (F : Def K mg x st f fd) (b : Binds K fd ps []) (S : FnScope N ps (fnScope st)) (hn : n = ps.length)
    (hbody : ∀ (cdv : Value) (A : Around) (outer : List Env) (s : Shared) (H : Hp) (E : XK), Room k (A.deeper (PyProof.Rows.envOfC x (fnScope st) s.heap.objs.size f cdv)) → ∃ t, SDs (BX P w K mg base N x st f cdv A outer s H E) W0 (fnBody st) t m) :
    Cal P w K mg base (k + 1) x (SpF K mg n (mFn N.length m)) [] := by
  subst hn
  refine cal0 F b .nil S (fun vs H Q E h => h.1) fun cdv A outer s H vs Q E hr h => ?_
  obtain ⟨hl, w, G, B, ss, o, wk, r, q⟩ := h
  obtain ⟨t, ht⟩ := hbody cdv A outer s H E hr
  refine ⟨t, ht.pe, ht.sem w G H (L2.start N vs) (env0 N.length ss) G H B _ (start_rel o wk r) ?_⟩
  unfold mFn at q
  cases e : m (env0 N.length ss) B with
  | nx env' B' => rw [e] at q; exact fun σ' G' H' R' s' => q .non G' H' R'.ent R'.ok .non
  | ret d B' => rw [e] at q; exact q
  | exc c as e1 B' => rw [e] at q; exact fun σ' cls dd fs G' H' m R' _ d f => q cls dd fs G' H' m R'.ent R'.ok d f
  | bk env' B' => rw [e] at q; exact q.elim
  | ct env' B' => rw [e] at q; exact q.elim
  | bad => rw [e] at q; exact q.elim
def mCall (np : Nat) (m : List SV → Bag → Res PD) (ma : EnvM → Bag → Res (List SV)) : EnvM → Bag → Res PD := fun env B => (ma env B).bind fun ss B1 => if ss.length = np then (match m ss B1 with
  | .ok d B2 => .ok d B2
  | _ => .bad) else .bad
theorem ed_def {k j np : Nat} {x : Str} {e : Expr} {es : List Expr} {t : TA} {m : List SV → Bag → Res PD} {ma : EnvM → Bag → Res (List SV)} {p pos : Pos} (c : Cal X.prog X.w X.K X.mg X.base k x (SpF X.K X.mg np m) []) (hr : Room j X.A) (hk : k ≤ j) (ha : AD X W (e :: es) t ma) (hg : Gl X x := by rfl)
    (hdb : (x == ("__debug__" : Str)) = false := by decide) (he : starEach (e :: es) X.env = (false, eval e X.env) :: starEach es X.env := by rfl) (hpl : (backTo pos (starEach es X.env)).any (·.1) = false := by rfl) :
    ED X W (.Call (.Name x p) (e :: es) [] pos) (tCall (SpF X.K X.mg np m) [] C8.E0 t) (mCall np m ma) := by
  refine ⟨pe_c c hr hk hg ha.pe hdb he hpl, fun w G0 H0 σ env G H B Q R h => ?_⟩
  refine ha.sem w G0 H0 σ env G H B _ R (PostR.bind h fun ss B1 vs G1 H1 s1 o1 d1 h1 => ?_)
  rw [List.append_nil]
  by_cases hl : ss.length = np
  · rw [if_pos hl] at h1
    refine ⟨by rw [d1.length]; exact hl, w, G1, B1, ss, o1, R.wk, d1, ?_⟩
    cases z : m ss B1 with
    | ok d B2 => rw [z] at h1; exact h1
    | exc c as B2 => rw [z] at h1; exact h1.elim
    | bad => rw [z] at h1; exact h1.elim
  · rw [if_neg hl] at h1; exact h1.elim
end
end DL
set_option Elab.async false
set_option linter.all false
set_option maxRecDepth 100000
set_option maxHeartbeats 2000000
/-! DL6: the rules whose transformer names the fragment, with the fragment given (so that they serve within a comprehension's block). -/
namespace DL
open PySem L2 C8
open ZT (PT)
abbrev rLenK (K : Fg) : List V → Hp → VK → Prop := fun xs H Q => ∃ x n, xs = [x] ∧ LenV K x H n ∧ Q (.int n) H
abbrev rAbs : List V → Hp → VK → Prop := fun xs H Q => ∃ i, xs = [.int i] ∧ Q (.int (if i < 0 then -i else i)) H
abbrev rInt1 : List V → Hp → VK → Prop := fun xs H Q => (∃ i, xs = [.int i] ∧ Q (.int i) H) ∨ ∃ k, xs = [.bl k] ∧ Q (.int (if k then 1 else 0)) H
abbrev rListK (K : Fg) : List V → Hp → VK → Prop := fun xs H Q => ∃ p ys, xs = [.ref p] ∧ (SqL K H p ys ∨ SqT K H p ys) ∧ ∀ l, H l = none → Q (.ref l) (upd H l (.lst ys))
abbrev rTupleK (K : Fg) : List V → Hp → VK → Prop := ZT.rTupleP K
section
variable {X : Cx} {W : WX}
theorem td_truK (K : Fg) {t : TE} {e : Expr} {m : EnvM → Bag → Res PD} (h : ED X W e t m) (he : ∀ whole, isTrue e X.env whole = (do let v ← whole; standAt e.pos; holding [v] (truthy v)) := by intro _; rfl) (hK : X.K = K := by rfl) : TD X W e (tTruth K t) (mTru truP m) := by
  subst hK; exact td_tru h he
theorem ed_addK (K : Fg) {a b : Expr} {ta tb : TE} {ma mb : EnvM → Bag → Res PD} {pos : Pos} (ha : ED X W a ta ma) (hb : ED X W b tb mb) (hK : X.K = K := by rfl) : ED X W (.BinOp a .Add b pos) (tOp (rAddU K) ta tb) (mOp addP ma mb) := by
  subst hK; exact ed_add ha hb
theorem ed_ixK (K : Fg) {a b : Expr} {ta tb : TE} {ma mb : EnvM → Bag → Res PD} {pos : Pos} (ha : ED X W a ta ma) (hb : ED X W b tb mb) (hs : PlainIx b := by exact fun _ _ => rfl) (hK : X.K = K := by rfl) : ED X W (.Subscript a b pos) (tOp (rIx K) ta tb) (mOp ixP ma mb) := by
  subst hK; exact ed_ix ha hb hs
theorem ed_sliceK (K : Fg) {e : Expr} {lo hi : Option Expr} {t : TE} {tl th : TO} {m : EnvM → Bag → Res PD} {ml mh : EnvM → Bag → Res (Option Int)} {pos p2 : Pos} (he : ED X W e t m) (hl : OD X W lo tl ml) (hh : OD X W hi th mh) (hK : X.K = K := by rfl) :
    ED X W (.Subscript e (.Slice lo hi none p2) pos) (tSl (rSlU K) t tl th) (mSl m ml mh) := by
  subst hK; exact ed_slice he hl hh
theorem ed_isiK (K : Fg) {e : Expr} {t : TE} {m : EnvM → Bag → Res PD} {T : String} {f : PD → Bool} {x : Str} {p p2 pos : Pos} (hf : ∀ d, kitB (tyN d) T = some (f d)) (hm : X.mg "isinstance" = none) (hmT : X.mg x = none) (he : ED X W e t m) (hv : bootBuiltins x = some (.type T)) (hg : Gl X "isinstance" := by rfl) (hgT : Gl X x := by rfl)
    (hn : x ≠ "__name__" := by decide) (hd : (x == ("__debug__" : Str)) = false := by decide)
    (h1 : starEach [e, .Name x p2] X.env = (false, eval e X.env) :: starEach [.Name x p2] X.env := by rfl) (h2 : starEach [.Name x p2] X.env = (false, eval (.Name x p2) X.env) :: starEach [] X.env := by rfl) (hpl : (backTo pos (starEach [.Name x p2] X.env)).any (·.1) = false := by rfl) (hK : X.K = K := by rfl) :
    ED X W (.Call (.Name "isinstance" p) [e, .Name x p2] [] pos) (tCB (rIsi K) (tCons t (tCons (tC (.ty T)) tNil))) (mIsi f m) := by
  subst hK; exact ed_isi hf hm hmT he hv hg hgT hn hd h1 h2 hpl
theorem ed_isi2K (K : Fg) {e : Expr} {t : TE} {m : EnvM → Bag → Res PD} {T T' : String} {f g : PD → Bool} {x y : Str} {p p2 p3 pt pos : Pos} {k} (hf : ∀ d, kitB (tyN d) T = some (f d)) (hg' : ∀ d, kitB (tyN d) T' = some (g d)) (hm : X.mg "isinstance" = none) (hmT : X.mg x = none) (hmT' : X.mg y = none) (he : ED X W e t m)
    (hv : bootBuiltins x = some (.type T)) (hv' : bootBuiltins y = some (.type T')) (hg : Gl X "isinstance" := by rfl) (hgT : Gl X x := by rfl) (hgT' : Gl X y := by rfl)
    (hn : x ≠ "__name__" := by decide) (hd : (x == ("__debug__" : Str)) = false := by decide) (hn' : y ≠ "__name__" := by decide) (hd' : (y == ("__debug__" : Str)) = false := by decide)
    (h1 : starEach [e, .Tuple [.Name x p2, .Name y p3] k pt] X.env = (false, eval e X.env) :: starEach [.Tuple [.Name x p2, .Name y p3] k pt] X.env := by rfl)
    (h2 : starEach [.Tuple [.Name x p2, .Name y p3] k pt] X.env = (false, eval (.Tuple [.Name x p2, .Name y p3] k pt) X.env) :: starEach [] X.env := by rfl)
    (h3 : starEach [.Name x p2, .Name y p3] X.env = (false, eval (.Name x p2) X.env) :: starEach [.Name y p3] X.env := by rfl) (h4 : starEach [.Name y p3] X.env = (false, eval (.Name y p3) X.env) :: starEach [] X.env := by rfl)
    (hpl : (backTo pos (starEach [.Tuple [.Name x p2, .Name y p3] k pt] X.env)).any (·.1) = false := by rfl) (hK : X.K = K := by rfl) :
    ED X W (.Call (.Name "isinstance" p) [e, .Tuple [.Name x p2, .Name y p3] k pt] [] pos) (tCB (rIsiT K) (tCons t (tCons (tTup (tCons (tC (.ty T)) (tCons (tC (.ty T')) tNil))) tNil))) (mIsi2 f g m) := by
  subst hK; exact ed_isi2 hf hg' hm hmT hmT' he hv hv' hg hgT hgT' hn hd hn' hd' h1 h2 h3 h4 hpl
theorem wi_seqK (K : Fg) {tg e : Expr} {t : TE} {m : EnvM → Bag → Res PD} (h : ED X W e t m) (hK : X.K = K := by rfl) : WI X W true tg e (fun σ H R => iList K t σ H R ∨ iTup K t σ H R) (mSeqOf m) := by
  subst hK; exact wi_seq h
theorem gt_tupK {st : Bool} (K : Fg) {es : List Expr} {k : Nat} {g : TGs} {mr : List PD → EnvM → Option EnvM} {js : List Nat} {n : Nat} {pos : Pos} (hc : X.calm = true) (h : GTs X es g mr js)
    (hn : (assignEach es X.env).length = n := by rfl) (hst : (assignEach es X.env).findIdx? (·.1) = none := by rfl) (hK : X.K = K := by rfl) : GT X st (.Tuple es k pos) (gTup K n g) (mgTup mr n) js := by
  subst hK; exact gt_tup hc h hn hst
theorem ed_defK (K : Fg) (mg : Str → Option Value) {k j np : Nat} {x : Str} {e : Expr} {es : List Expr} {t : TA} {m : List SV → Bag → Res PD} {ma : EnvM → Bag → Res (List SV)} {p pos : Pos} (c : Cal X.prog X.w K mg X.base k x (SpF K mg np m) []) (hr : Room j X.A) (hk : k ≤ j) (ha : AD X W (e :: es) t ma) (hg : Gl X x := by rfl)
    (hdb : (x == ("__debug__" : Str)) = false := by decide) (he : starEach (e :: es) X.env = (false, eval e X.env) :: starEach es X.env := by rfl) (hpl : (backTo pos (starEach es X.env)).any (·.1) = false := by rfl) (hK : X.K = K := by rfl) (hM : X.mg = mg := by rfl) :
    ED X W (.Call (.Name x p) (e :: es) [] pos) (tCall (SpF K mg np m) [] C8.E0 t) (mCall np m ma) := by
  subst hK hM; exact ed_def c hr hk ha hg hdb he hpl
theorem ed_ixOwnK (K : Fg) (i : Nat) {x : Str} {e : Expr} {t : TE} {m : EnvM → Bag → Res PD} {p1 pos : Pos} (he : ED X W e t m) (hs : PlainIx e := by exact fun _ _ => rfl) (hN : X.N[i]? = some x := by rfl) (hv : Vis X.env.scope x := by first | exact Or.inl rfl | exact Or.inr (Or.inl rfl) | exact Or.inr (Or.inr rfl)) (hd : (x == ("__debug__" : Str)) = false := by decide)
    (hcd : (x == ("__classdict__" : Str)) = false := by decide) (hK : X.K = K := by rfl) : ED X W (.Subscript (.Name x p1) e pos) (tOp (rIxL K) (tVar i) t) (mIxOwn i m) := by
  subst hK; exact ed_ixOwn i he hs hN hv hd hcd
theorem ed_bagK (K : Fg) (i k : Nat) {x : Str} {j : Nat} {p1 p2 pos : Pos} (hN : X.N[i]? = some x := by rfl) (hv : Vis X.env.scope x := by first | exact Or.inl rfl | exact Or.inr (Or.inl rfl) | exact Or.inr (Or.inr rfl)) (hd : (x == ("__debug__" : Str)) = false := by decide)
    (hcd : (x == ("__classdict__" : Str)) = false := by decide) (hK : X.K = K := by rfl) : ED X W (.Subscript (.Name x p1) (.Constant (.int (k : Int)) j p2) pos) (tOp (rIxL K) (tVar i) (tC (.int (k : Int)))) (mBagIx i k) := by
  subst hK; exact ed_bag i k hN hv hd hcd
theorem ed_listZipK (K : Fg) {e e2 : Expr} {t : TA} {m : EnvM → Bag → Res (List SV)} {p0 p pos pos0 : Pos} (hc : X.calm = true) (hm0 : X.mg "list" = none) (hm : X.mg "zip" = none) (ha : AD X W [e, e2] t m) (hg0 : Gl X "list" := by rfl) (hg : Gl X "zip" := by rfl)
    (hs0 : starEach [.Call (.Name "zip" p) [e, e2] [] pos] X.env = (false, eval (.Call (.Name "zip" p) [e, e2] [] pos) X.env) :: starEach [] X.env := by rfl)
    (hs : starEach [e, e2] X.env = (false, eval e X.env) :: starEach [e2] X.env := by rfl) (hpl : (backTo pos (starEach [e2] X.env)).any (·.1) = false := by rfl) (hK : X.K = K := by rfl) :
    ED X W (.Call (.Name "list" p0) [.Call (.Name "zip" p) [e, e2] [] pos] [] pos0) (ZL.tListZip K t) (mCa zipP m) := by
  subst hK; exact ed_listZip hc hm0 hm ha hg0 hg hs0 hs hpl
end
end DL
set_option Elab.async false
set_option linter.all false
set_option maxRecDepth 100000
set_option maxHeartbeats 4000000
/-! DL7: set(..) of a list or a tuple of ints, t[::-1], len and sorted of a dict comprehension of marks. -/
namespace DL
open PySem PySem.Spec PyProof.Rows L2 HT
section
variable {P : Program} {w : World} {A : Around} {E : Value → Shared → Prop} {s : Shared}
/- the way of the library's rule for a tuple, for a list -/
set_option maxHeartbeats 3200000 in
theorem call_set_lstI {l : Addr} {items : Array Value} (ns : List Int) {Q : Value → Shared → Prop} (hh : A.handled = none) (hl : s.heap.IsList l items) (hit : IntsAre items.toList ns) (hb : ns.length + 1 < scanBound)
    (h : ∀ (h' : Heap) (tk c : Nat), SetR w h' s.heap.objs.size (fun j => decide (j ∈ ns)) c → c ≤ ns.length → (∀ b o, s.heap.get? b = some o → h'.get? b = some o) → Q (.ref s.heap.objs.size) { s with heap := h', toks := tk }) :
    wpAny (model P w) A (call (.type "set") [.ref l]) Q E s := by
  have hisz : items.size = ns.length := by
    have q := IntsAre.length hit
    rw [Array.length_toList] at q
    exact q
  obtain ⟨c, tl, hmro⟩ := F.called_set.mro
  have hmade := F.called_set.made
  have hsub := F.called_set.sub
  refine wpAny_call (codeAny_of_tree ?_)
  show wpAny _ _ (callAny (.type "set") _) _ _ _
  refine wpAny_pure ⟨Code.quiet_builtin _ (by decide +kernel), codeAny_builtin F.entry_type_call ?_⟩
  rw [Around.under_plain (weight_type_call_type "set" [.ref l] []) rfl]
  have h1 := F.called_set.notType
  have h2 := F.called_set.canCreate
  have hct := F.typeCall_set_1 (.ref l)
  repeat (any_goals (first | assumption | wp_step))

  refine codeAny_mono (code_set_led1 (.ref l) (E := E) (Q₁ := fun obj s₁ => obj = .ref s.heap.objs.size ∧ s₁ = { s with heap := s.heap.push { cls := .type "set", dict := none, data := .set #[] 0 (.fresh 0 0 (!w.params.followText "set-order")) } }) ⟨rfl, rfl⟩) fun r s₁ hr => ?_
  cases r with
  | error e => exact hr
  | ok fl =>
    cases fl with
    | ret obj =>
      obtain ⟨rfl, rfl⟩ := hr
      have hS : (s.heap.push { cls := .type "set", dict := none, data := .set #[] 0 (.fresh 0 0 (!w.params.followText "set-order")) }).get? s.heap.objs.size = some { cls := .type "set", dict := none, data := .set #[] 0 (.fresh 0 0 (!w.params.followText "set-order")) } := Heap.get?_push_size _ rfl
      have hT : Shared.TypeIs { s with heap := s.heap.push { cls := .type "set", dict := none, data := .set #[] 0 (.fresh 0 0 (!w.params.followText "set-order")) } } (.ref s.heap.objs.size) "set" := ⟨_, hS, rfl⟩
      have hli := F.called_set.init.lookup
      have hbi := F.called_set.init.bind (.ref s.heap.objs.size)
      repeat (any_goals (first | assumption | wp_step))

      refine codeAny_mono (codeAny_call_builtin (R := wants (fun r s₂ => r = .none ∧ ∃ h' tk c, s₂ = { s with heap := h', toks := tk } ∧ SetR w h' s.heap.objs.size (fun j => decide (j ∈ ns)) c ∧ c ≤ ns.length ∧
          (∀ b o, s.heap.get? b = some o → h'.get? b = some o)) E) F.called_set.init.plain F.entry_set_init (check_set_init_1 hT ?_)) fun r₂ s₂ hr₂ => ?_
      · obtain ⟨ol, hol, hcl, nl, hdl⟩ := hl
        obtain ⟨ocls, odict, odata, oslots⟩ := ol
        simp only at hcl hdl
        subst hcl; subst hdl
        have hol' : (s.heap.push { cls := .type "set", dict := none, data := .set #[] 0 (.fresh 0 0 (!w.params.followText "set-order")) }).get? l = some { cls := .type "list", dict := odict, data := .seq items nl, slots := oslots } := Heap.get?_push_of_some _ hol
        have hsls := F.sub_list_set
        have hslf := F.sub_list_frozenset
        have hne : (Value.type "list" == Value.type "dict") = false := by decide
        have hl1 : (s.heap.push { cls := .type "set", dict := none, data := .set #[] 0 (.fresh 0 0 (!w.params.followText "set-order")) }).IsList l items := ⟨_, hol', rfl, nl, rfl⟩
        unfold Builtin.«set.__init__» noKeywords Builtin.Frozenset.updateFrom
        generalize hPI : pyIter = PI
        wp_walk
        subst hPI

        refine wpAny_pyIter_list hl1 ?_
        refine wpAny_bind (wpAny_runValue ?_)
        have hlS : l < s.heap.objs.size := Heap.lt_size hol
        have hh3 : A.in1.in1.in1.handled = none := by simp [hh]
        have hz1 : (s.heap.push { cls := .type "set", dict := none, data := .set #[] 0 (.fresh 0 0 (!w.params.followText "set-order")) }).objs.size = s.heap.objs.size + 1 := Heap.size_push ..
        have hneI : l ≠ (s.heap.push { cls := .type "set", dict := none, data := .set #[] 0 (.fresh 0 0 (!w.params.followText "set-order")) }).objs.size := by
          rw [Heap.size_push]; exact Nat.ne_of_lt (Nat.lt_succ_of_lt hlS)
        have hSf : s.heap.objs.size ∉ [(s.heap.push { cls := .type "set", dict := none, data := .set #[] 0 (.fresh 0 0 (!w.params.followText "set-order")) }).objs.size, l] := by
          rw [Heap.size_push]; simp only [List.mem_cons, List.mem_singleton, List.not_mem_nil, or_false, not_or]
          exact ⟨Nat.ne_of_lt (Nat.lt_succ_self _), Nat.ne_of_gt hlS⟩
        have hval : ∀ (i : Nat) (v : Value), items[i]? = some v → ∃ k t, ns[i]? = some k ∧ v = .int k t := fun i v hv => by
          have hi : i < ns.length := by rw [← hisz]; exact (Array.getElem?_eq_some_iff.mp hv).1
          obtain ⟨t, e⟩ := PyProof.Rows.IntsAre.int_at hit i v (by rw [Array.getElem?_toList]; exact hv)
          refine ⟨ns[i], t, List.getElem?_eq_getElem hi, ?_⟩
          rw [e, List.getD_eq_getElem?_getD, List.getElem?_eq_getElem hi] <;> rfl
        refine set_update_ints ((PySem.Walks.list hh3 _ l hneI items).toS) s.heap.objs.size
          hSf ns hisz hb hval (items.size - 0) 0 _ (by omega) (Nat.zero_le _)
          ⟨⟨_, Heap.get?_push_size _ rfl, rfl, rfl⟩, (hl1.push _)⟩ ?hS0 ?hR
        case hS0 =>
          have hget : ((s.heap.push { cls := .type "set", dict := none, data := .set #[] 0 (.fresh 0 0 (!w.params.followText "set-order")) }).push { cls := .type "list_iterator", data := .fields #[.ref l, .int 0 0] }).get? s.heap.objs.size
              = some { cls := .type "set", dict := none, data := .set #[] 0 (.fresh 0 0 (!w.params.followText "set-order")) } := Heap.get?_push_of_some _ hS
          exact ⟨0, Nat.le_refl 0, setR_new_at hget⟩
        case hR =>
          intro s' c' hm hc' hS'
          obtain ⟨h', g2, d', tk', os'⟩ := s'
          have eg : g2 = s.gens := hm.gens
          have ed : d' = s.drawn := hm.drawn
          have eo : os' = s.os := hm.os
          subst eg; subst ed; subst eo
          show wpAny _ _ _ _ _ _
          refine wpAny_pure ?_
          show wpAny _ _ (ret Value.none) _ _ _
          rw [hisz] at hc'
          refine wpAny_pure ⟨rfl, h', tk', c', rfl, hS', hc', fun b o e => ?_⟩
          have hb0 : b < s.heap.objs.size := Heap.lt_size e
          have hb1 : b ≠ s.heap.objs.size := Nat.ne_of_lt hb0
          have hb2 : b ≠ (s.heap.push { cls := .type "set", dict := none, data := .set #[] 0 (.fresh 0 0 (!w.params.followText "set-order")) }).objs.size := by
            rw [Heap.size_push]; exact Nat.ne_of_lt (Nat.lt_succ_of_lt hb0)
          exact hm.heap b o (by simp only [List.mem_cons, List.mem_singleton, List.not_mem_nil, or_false, not_or]; exact ⟨hb1, hb2⟩) (Heap.get?_push_of_some _ (Heap.get?_push_of_some _ e))

      · cases r₂ with
        | error e => exact hr₂
        | ok fl₂ =>
          cases fl₂ with
          | ret r =>
            obtain ⟨rfl, h', tk, c', rfl, hS', hc', hk'⟩ := hr₂
            repeat (any_goals (first | assumption | wp_step))
            exact h _ _ _ hS' hc' hk'
          | _ => exact hr₂.elim
    | _ => exact hr.elim

end
/-! ### t[::-1] -/
section
variable {prog : Program} {w : World} {A : Around} {E : Value → Shared → Prop} {s : Shared}
theorem rev_applied {sl : Addr} {vs : Value} {n : Nat} {Q : Int × Int × Nat → Shared → Prop} (hs : s.heap.IsSliceOf sl .none .none vs) (ps : IsPart vs (some (-1)))
    (h : Q ((n : Int) - 1, -1, n) s) : wpAny (model prog w) A (Builtin.Slice.sliceApplied (.ref sl) (pure (n : Int))) Q E s := by
  obtain ⟨os, hos, hcs, hds⟩ := id hs
  unfold Builtin.Slice.sliceApplied Builtin.Slice.sliceFields
  refine wpAny_bind (wpAny_bind (wpAny_field hos hds (x := .none) rfl (wpAny_bind (wpAny_field hos hds (x := .none) rfl (wpAny_bind (wpAny_field hos hds (x := vs) rfl (wpAny_pure ?_)))))))
  refine wpAny_bind (slicePart_ ps ?_)
  show wpAny _ _ (if ((-1 : Int) == 0) = true then _ else _) _ _ s
  rw [if_neg (by decide)]
  refine wpAny_bind (slicePart_ .none (wpAny_bind (slicePart_ .none (wpAny_bind (wpAny_pure ?_)))))
  have e : Builtin.Slice.sliceAdjust none none (-1) (n : Int) = ((n : Int) - 1, -1) := rfl
  show wpAny _ _ (match Builtin.Slice.sliceAdjust none none (-1) (n : Int) with | (lo, hi) => pure (lo, (-1 : Int), Builtin.Slice.slicePlaces lo hi (-1))) _ _ s
  rw [e]
  show wpAny _ _ (pure ((n : Int) - 1, (-1 : Int), Builtin.Slice.slicePlaces ((n : Int) - 1) (-1) (-1))) _ _ s
  have e2 : Builtin.Slice.slicePlaces ((n : Int) - 1) (-1) (-1) = n := by
    unfold Builtin.Slice.slicePlaces
    have h1 : ¬ ((-1 : Int) > 0) := by omega
    simp only [h1, if_false]
    split
    · have : ((n : Int) - 1 - -1 - 1) / (- -1) + 1 = (n : Int) := by
        rw [show (- -1 : Int) = 1 by decide, Int.ediv_one]; omega
      rw [this]; omega
    · omega
  rw [e2]
  exact wpAny_pure h
theorem fm_congr {α β : Type} {f g : α → Option β} : ∀ {l : List α}, (∀ x ∈ l, f x = g x) → l.filterMap f = l.filterMap g
  | [], _ => rfl
  | a :: r, h => by
    rw [List.filterMap_cons, List.filterMap_cons, h a List.mem_cons_self, fm_congr fun x hx => h x (List.mem_cons_of_mem _ hx)]
theorem pick_rev (xs : Array Value) : ((List.range xs.size).filterMap fun (m : Nat) => xs[(((xs.size : Int) - 1) + (m : Int) * (-1)).toNat]?).toArray = xs.toList.reverse.toArray := by
  have h := PySem.W.krv_all xs
  have e : ((List.range xs.size).filterMap fun (m : Nat) => xs[(((xs.size : Int) - 1) + (m : Int) * (-1)).toNat]?) = ((List.range xs.size).map fun k => xs.size - 1 - k).filterMap (xs[·]?) := by
    rw [List.filterMap_map]
    refine fm_congr fun m hm => ?_
    have hm := List.mem_range.mp hm
    show _ = xs[xs.size - 1 - m]?
    have : (((xs.size : Int) - 1) + (m : Int) * (-1)).toNat = xs.size - 1 - m := by omega
    rw [this]
  rw [e, PySem.W.krv_range, List.filterMap_reverse, h]
theorem getItem_tuple_rev {t sl : Addr} {items : Array Value} {vs : Value} {Q : Value → Shared → Prop} (ht : IsTup s.heap t items) (hs : s.heap.IsSliceOf sl .none .none vs) (ps : IsPart vs (some (-1)))
    (h : Q (.ref s.heap.objs.size) { s with heap := s.heap.push { cls := .type "tuple", data := .seq items.toList.reverse.toArray } })
    (hsz : items.size ≤ sizeLine) : wpAny (model prog w) A (getItem (.ref t) (.ref sl)) Q E s := by
  have htake : sizeOk (.seq items.toList.reverse.toArray) := by
    show items.toList.reverse.toArray.size ≤ sizeLine
    rw [List.size_toArray, List.length_reverse, Array.length_toList]
    exact hsz
  obtain ⟨os, hos, hcs, hds⟩ := id hs
  have hTs : s.TypeIs (.ref sl) "slice" := ⟨os, hos, hcs⟩
  unfold getItem
  try with_reducible refine wpAny_holding ?_
  first | refine wpAny_bind (wpAny_pure ?_) | skip
  refine wpAny_bind (wpAny_sequenceKey ht.typeIs (by decide) ?_)
  refine wpAny_bind (wpAny_callSpecial?_slot (name := Str.ofString "__getitem__") ht.typeIs PyProof.Rows.slot_tuple_getitem
    (wpAny_call_entry PyProof.Rows.slot_tuple_getitem ht.typeIs entry_tuple_getitem ?_ (args_tuple_getitem _ _)))
  show wpAny _ _ (Builtin.Tuple.tupleItemsOf (.ref t) >>= _) _ _ s
  refine wpAny_bind (tupleItemsOf_ ht ?_)
  refine wpAny_bind (wpAny_typeOf hTs ?_)
  rw [if_pos (by decide)]
  refine wpAny_bind (rev_applied hs ps ?_)
  have hno : ¬ ((((items.size : Int) - 1) == 0 && (-1 : Int) == 1 && items.size == items.size) = true) := by
    intro q
    rw [Bool.and_eq_true, Bool.and_eq_true] at q
    exact absurd q.1.2 (by decide)
  show wpAny _ _ (if (((items.size : Int) - 1) == 0 && (-1 : Int) == 1 && items.size == items.size) = true then _ else _) _ _ s
  rw [if_neg hno, pick_rev]
  first
    | exact wpAny_bind (m := Builtin.Tuple.tupleExact _) (wpAny_newObj_type (wpAny_pure ⟨_, rfl, wpAny_pure h⟩) htake)
    | exact wpAny_bind (m := Builtin.Tuple.tupleExact _) (wpAny_newObj_type (wpAny_bind (wpAny_pure (wpAny_pure ⟨_, rfl, wpAny_pure h⟩))) htake)
    | exact wpAny_bind (wpAny_bind (m := Builtin.Tuple.tupleExact _) (wpAny_newObj_type (wpAny_pure (wpAny_pure ⟨_, rfl, wpAny_pure h⟩)) htake))
    | exact wpAny_bind (wpAny_bind (m := Builtin.Tuple.tupleExact _) (wpAny_newObj_type (wpAny_pure ⟨_, rfl, wpAny_pure h⟩) htake))
end
section
variable {X : Cx} {W : WX}
def tRevT (K : Fg) (te : TE) : TE := fun σ H Q => te σ H fun x H1 => ∃ a xs, x = .ref a ∧ SqT K H1 a xs ∧ ZT.Mk Q xs.reverse H1
theorem pe_revT {e : Expr} {te : TE} {k : Nat} {p1 p2 p3 pos : Pos} (he : PE X e te) : PE X (.Subscript e (.Slice none none (some (.UnaryOp .USub (.Constant (.int 1) k p1) p2)) p3) pos) (tRevT X.K te) := by
  refine ⟨fun pins s σ H Q I h => ?_⟩
  refine Subscript_ (thn (he.run pins s σ H _ I h) fun v s1 ⟨x, H1, I1, r1, q1⟩ => ?_)
  obtain ⟨a, xs, ex, hx, q⟩ := q1
  subst ex
  cases r1
  have hst : PO X (some (.UnaryOp .USub (.Constant (.int 1) k p1) p2)) (tPart (tUn (rU fun i => .int (-i)) (tC (.int 1)))) := po_some (pe_un un_neg pe_int)
  refine wpAny_Slice (thn (po_none.run pins s1 σ H1 (fun o H2 => o = none ∧ H2 = H1) I1 ⟨rfl, rfl⟩) fun vl s2 ⟨l, H2, I2, pl, el, e2⟩ => ?_)
  subst el e2
  refine thn (po_none.run pins s2 σ H2 (fun o H3 => o = none ∧ H3 = H2) I2 ⟨rfl, rfl⟩) fun vu s3 ⟨u, H3, I3, pu, eu, e3⟩ => ?_
  subst eu e3
  refine thn (hst.run pins s3 σ H3 (fun o H4 => o = some (-1) ∧ H4 = H3) I3 ⟨1, rfl, -1, rfl, rfl, rfl⟩) fun vs s4 ⟨o, H4, I4, ps, eo, e4⟩ => ?_
  subst eo e4
  cases pl; cases pu
  have I5 : Inv X pins σ H4 { s4 with heap := s4.heap.push { cls := .type "slice", data := .fields #[.none, .none, vs] } } := I4.kept (t' := s4.toks) fun b ob q => Heap.get?_push_of_some _ q
  obtain ⟨its, r, ht, hz⟩ := I5.tuple hx
  have hlen := r.length
  show wpAny (model X.prog X.w) X.A (subscriptTail e (.Slice none none (some (.UnaryOp .USub (.Constant (.int 1) k p1) p2)) p3) (.ref a) (.ref s4.heap.objs.size)) (EP X pins σ Q) X.xe { s4 with heap := s4.heap.push { cls := .type "slice", data := .fields #[.none, .none, vs] } }
  refine tail_any (ops := [.ref a, .ref s4.heap.objs.size]) ht.typeIs (PyProof.Rows.slot_tuple_getitem.lookup) ?_ (by with_unfolding_all rfl)
  refine getItem_tuple_rev ht (Heap.IsSliceOf.new _ .none .none vs) ps ?_ (by rw [List.size_toArray]; omega)
  exact ZT.made (s := { s4 with heap := s4.heap.push { cls := .type "slice", data := .fields #[.none, .none, vs] } }) (t' := s4.toks) I5 (fun b ob q => Heap.get?_push_of_some _ q) (Nat.le_refl _) r.reverse (by rw [List.length_reverse]; exact hz) (Heap.get?_push_size _ rfl) q
def mRev (m : EnvM → Bag → Res PD) : EnvM → Bag → Res PD := fun env B => (m env B).bind fun d B1 => match d with
  | .tuple ds => .ok (.tuple ds.reverse) B1
  | _ => .bad
theorem ed_revK (K : Fg) {e : Expr} {te : TE} {m : EnvM → Bag → Res PD} {k : Nat} {p1 p2 p3 pos : Pos} (he : ED X W e te m) (hK : X.K = K := by rfl) : ED X W (.Subscript e (.Slice none none (some (.UnaryOp .USub (.Constant (.int 1) k p1) p2)) p3) pos) (tRevT K te) (mRev m) := by
  subst hK
  refine ⟨pe_revT he.pe, fun w G0 H0 σ env G H B Q R h => ?_⟩
  refine he.sem w G0 H0 σ env G H B _ R (PostR.bind h fun d B1 v G1 H1 s1 o1 d1 h1 => ?_)
  cases d with
  | tuple ds =>
    cases d1 with
    | tup hx r =>
      exact ⟨_, _, rfl, subT o1.sub hx, fun p ob hp hd => h1 _ _ _ (Step.new o1.sub hp) (o1.new hp) (.tup (ZT.PT.new hd) ((r.mono (sub_upd (o1.free hp))).reverse))⟩
  | _ => exact (show False from h1).elim

/-! ### sorted(set(..)) of ints -/
def rSetI (K : Fg) (w : World) : List V → Hp → VK → Prop := fun xs H Q => ∃ (l : Addr) (ns : List Int), xs = [V.ref l] ∧ (SqL K H l (ns.map V.int) ∨ SqT K H l (ns.map V.int)) ∧ ns.length + 1 < scanBound ∧ ∀ (p : Addr) (c : Nat), H p = none → c ≤ ns.length → Q (.ref p) (upd H p (SetO w p (fun j => decide (j ∈ ns)) c))
theorem cr_setI (hc : X.calm = true) : CallR X (.type "set") (rSetI X.K X.w) := by
  intro pins s σ H xs us Q I r h
  obtain ⟨l, ns, rfl, hq, hb, q⟩ := h
  obtain ⟨u, rfl, ru⟩ := r.one
  cases ru
  have hd := I.ok.hd hc
  have fin : ∀ (h' : Heap) (tk c : Nat), SetR X.w h' s.heap.objs.size (fun j => decide (j ∈ ns)) c → c ≤ ns.length → (∀ b o, s.heap.get? b = some o → h'.get? b = some o) → EP X pins σ Q (.ref s.heap.objs.size) { s with heap := h', toks := tk } := fun h' tk c R1 hcn k =>
    ⟨.ref s.heap.objs.size, upd H s.heap.objs.size (SetO X.w s.heap.objs.size (fun j => decide (j ∈ ns)) c), I.laid k (Nat.le_refl _) (setO_new R1), rfl, q _ c (I.hok.fresh (Nat.le_refl _)) hcn⟩
  rcases hq with hq | hq
  · obtain ⟨its, rv, pl, hz⟩ := I.list hq
    exact call_set_lstI ns hd pl.isList (ints_of_vals rv) hb fin
  · obtain ⟨its, rv, pt, hz⟩ := I.tuple hq
    exact call_set_tupI ns hd (show s.heap.IsTuple l its.toArray from pt) (ints_of_vals rv) hb fin
def intsOf : List PD → Option (List Int)
  | [] => some []
  | .int i :: r => (intsOf r).map (i :: ·)
  | _ :: _ => none
theorem intsOf_eq : ∀ {ds : List PD} {ns : List Int}, intsOf ds = some ns → ds = ns.map PyData.int
  | [], ns, h => by cases h; rfl
  | .int i :: r, ns, h => by
    unfold intsOf at h
    cases e : intsOf r with
    | none => rw [e] at h; cases h
    | some ms =>
      rw [e] at h
      cases h
      rw [intsOf_eq e]; rfl
  | .none :: _, _, h => by cases h
  | .bool _ :: _, _, h => by cases h
  | .str _ :: _, _, h => by cases h
  | .list _ :: _, _, h => by cases h
  | .tuple _ :: _, _, h => by cases h
  | .dict _ :: _, _, h => by cases h
/-- the ints of ns, each once, rising -/
def riseI (ns : List Int) : List Int := sortI ns.eraseDups
theorem rise_uniq : ∀ {a b : List Int}, a.Pairwise (· < ·) → b.Pairwise (· < ·) → (∀ k, k ∈ a ↔ k ∈ b) → a = b
  | [], [], _, _, _ => rfl
  | [], y :: b, _, _, h => absurd ((h y).mpr List.mem_cons_self) (by simp)
  | x :: a, [], _, _, h => absurd ((h x).mp List.mem_cons_self) (by simp)
  | x :: a, y :: b, ha, hb, h => by
    obtain ⟨ha1, ha2⟩ := List.pairwise_cons.mp ha
    obtain ⟨hb1, hb2⟩ := List.pairwise_cons.mp hb
    have exy : x = y := by
      rcases List.mem_cons.mp ((h x).mp List.mem_cons_self) with e | e
      · exact e
      · rcases List.mem_cons.mp ((h y).mpr List.mem_cons_self) with e' | e'
        · exact e'.symm
        · have := ha1 y e'; have := hb1 x e; omega
    subst exy
    rw [rise_uniq ha2 hb2 fun k => ⟨fun hk => ?_, fun hk => ?_⟩]
    · rcases List.mem_cons.mp ((h k).mp (List.mem_cons_of_mem _ hk)) with e | e
      · subst e; have := ha1 k hk; omega
      · exact e
    · rcases List.mem_cons.mp ((h k).mpr (List.mem_cons_of_mem _ hk)) with e | e
      · subst e; have := hb1 k hk; omega
      · exact e
theorem rise_mem {ns : List Int} {k : Int} : k ∈ riseI ns ↔ k ∈ ns := by
  unfold riseI sortI
  rw [List.mem_mergeSort, List.mem_eraseDups]
theorem nodup_eraseDups : ∀ (n : Nat) (ns : List Int), ns.length ≤ n → ns.eraseDups.Nodup
  | _, [], _ => by simp
  | 0, x :: r, h => by simp at h
  | n + 1, x :: r, h => by
    rw [List.eraseDups_cons, List.nodup_cons]
    refine ⟨fun q => ?_, nodup_eraseDups n _ (Nat.le_trans (List.length_filter_le _ _) (by simpa using h))⟩
    rw [List.mem_eraseDups, List.mem_filter] at q
    simp at q
theorem rise_lt (ns : List Int) : (riseI ns).Pairwise (· < ·) := by
  have h1 : (riseI ns).Pairwise (fun i j => decide (i ≤ j) = true) := List.pairwise_mergeSort (fun a b c h1 h2 => by simp at *; omega) (fun a b => by simp; omega) _
  have h2 : (riseI ns).Nodup := (List.mergeSort_perm _ _).nodup_iff.mpr (nodup_eraseDups _ ns (Nat.le_refl _))
  refine (h1.and h2).imp fun ⟨a, b⟩ => ?_
  have a := of_decide_eq_true a
  omega
theorem rise_eq {ns ms : List Int} (h : ms.Pairwise (· < ·)) (k : ∀ i, i ∈ ms ↔ i ∈ ns) : ms = riseI ns := rise_uniq h (rise_lt ns) fun i => (k i).trans rise_mem.symm
def mSrtSet (m : EnvM → Bag → Res PD) : EnvM → Bag → Res PD := fun env B => (m env B).bind fun d B1 => match d with
  | .list ds => (match intsOf ds with
    | some ns => if ns.length < 64 then .ok (.list ((riseI ns).map PyData.int)) B1 else .bad
    | none => .bad)
  | .tuple ds => (match intsOf ds with
    | some ns => if ns.length < 64 then .ok (.list ((riseI ns).map PyData.int)) B1 else .bad
    | none => .bad)
  | _ => .bad
def tSrtSet (K : Fg) (w : World) (t : TE) : TE := tCB (rSortedSet w) (tCons (tCB (rSetI K w) (tCons t tNil)) tNil)
theorem ed_srtSetK (K : Fg) (w : World) {e : Expr} {t : TE} {m : EnvM → Bag → Res PD} {p p2 pos pos2 : Pos} (hc : X.calm = true) (hm : X.mg "sorted" = none) (hm2 : X.mg "set" = none) (he : ED X W e t m) (hg : Gl X "sorted" := by rfl) (hg2 : Gl X "set" := by rfl)
    (h1 : starEach [.Call (.Name "set" p2) [e] [] pos2] X.env = (false, eval (.Call (.Name "set" p2) [e] [] pos2) X.env) :: starEach [] X.env := by rfl) (hpl : (backTo pos (starEach [] X.env)).any (·.1) = false := by rfl)
    (h2 : starEach [e] X.env = (false, eval e X.env) :: starEach [] X.env := by rfl) (hpl2 : (backTo pos2 (starEach [] X.env)).any (·.1) = false := by rfl) (hK : X.K = K := by rfl) (hw : X.w = w := by rfl) :
    ED X W (.Call (.Name "sorted" p) [.Call (.Name "set" p2) [e] [] pos2] [] pos) (tSrtSet K w t) (mSrtSet m) := by
  subst hK hw
  refine ⟨pe_callB (cr_sortedSet hc) hg hm (by decide +kernel) (pa_cons (pe_callTy (cr_setI hc) hg2 hm2 (by decide +kernel) (pa_cons he.pe pa_nil h2) (by decide) (by decide) h2 hpl2) pa_nil h1) (by decide) (by decide) h1 hpl, fun w G0 H0 σ env G H B Q R h => ?_⟩
  refine he.sem w G0 H0 σ env G H B _ R (PostR.bind h fun d B1 v G1 H1 s1 o1 d1 h1 => ?_)
  have go : ∀ (l : Addr) (ns : List Int), v = .ref l → (SqL X.K H1 l (ns.map V.int) ∨ SqT X.K H1 l (ns.map V.int)) → ns.length < 64 → PostE X.K X.mg w G1 H1 (.ok (.list ((riseI ns).map PyData.int)) B1) Q (fun c d H' => W c d σ H') → rSetI X.K X.w [v] H1 (fun x H2 => rSortedSet X.w [x] H2 Q) := by
    intro l ns e1 hq hl h2
    subst e1
    refine ⟨l, ns, rfl, hq, by unfold scanBound; omega, fun p c hp hcn => ⟨p, _, c, rfl, upd_same, by omega, fun ms q hms hk hlen hq' => ?_⟩⟩
    have e2 : ms = riseI ns := rise_eq hms fun i => by rw [hk i]; simp
    subst e2
    have s2 : Step w G1 H1 G1 (upd H1 p (SetO X.w p (fun j => decide (j ∈ ns)) c)) := Step.newH hp
    have o2 := o1.newH (o := SetO X.w p (fun j => decide (j ∈ ns)) c) hp
    exact h2 _ _ _ (s2.trans (Step.new o2.sub hq')) (o2.new hq') (.lst upd_same (DRs.ints _))
  cases d with
  | list ds =>
    have h1 : PostE X.K X.mg w G1 H1 (match intsOf ds with | some ns => if ns.length < 64 then .ok (.list ((riseI ns).map PyData.int)) B1 else .bad | none => .bad) Q (fun c d H' => W c d σ H') := h1
    cases e : intsOf ds with
    | none => rw [e] at h1; exact h1.elim
    | some ns =>
      rw [e] at h1
      have h1 : PostE X.K X.mg w G1 H1 (if ns.length < 64 then .ok (.list ((riseI ns).map PyData.int)) B1 else .bad) Q (fun c d H' => W c d σ H') := h1
      by_cases hl : ns.length < 64
      · rw [if_pos hl] at h1
        cases d1 with
        | lst hx r =>
          rw [intsOf_eq e] at r
          rw [r.of_ints] at hx
          exact go _ ns rfl (.inl (subL o1.sub hx)) hl h1
      · rw [if_neg hl] at h1; exact h1.elim
  | tuple ds =>
    have h1 : PostE X.K X.mg w G1 H1 (match intsOf ds with | some ns => if ns.length < 64 then .ok (.list ((riseI ns).map PyData.int)) B1 else .bad | none => .bad) Q (fun c d H' => W c d σ H') := h1
    cases e : intsOf ds with
    | none => rw [e] at h1; exact h1.elim
    | some ns =>
      rw [e] at h1
      have h1 : PostE X.K X.mg w G1 H1 (if ns.length < 64 then .ok (.list ((riseI ns).map PyData.int)) B1 else .bad) Q (fun c d H' => W c d σ H') := h1
      by_cases hl : ns.length < 64
      · rw [if_pos hl] at h1
        cases d1 with
        | tup hx r =>
          rw [intsOf_eq e] at r
          rw [r.of_ints] at hx
          exact go _ ns rfl (.inr (subT o1.sub hx)) hl h1
      · rw [if_neg hl] at h1; exact h1.elim
  | _ => exact (show False from h1).elim
end
end DL
set_option Elab.async false
set_option linter.all false
set_option maxRecDepth 100000
set_option maxHeartbeats 4000000
/-! DL8: len and sorted of {x: True for x in ..}. -/
namespace DL
open PySem L2
open ZT (PT)
section
variable {α : Type} [DecidableEq α]
def addK (l : List α) (k : α) : List α := if k ∈ l then l else l ++ [k]
def dedupK (ks : List α) : List α := ks.foldl addK []
theorem addK_mem {l : List α} {k x : α} : x ∈ addK l k ↔ x ∈ l ∨ x = k := by
  unfold addK
  split
  · rename_i h
    exact ⟨.inl, fun q => q.elim id fun e => by rw [e]; exact h⟩
  · rw [List.mem_append, List.mem_singleton]
theorem addK_nodup {l : List α} {k : α} (h : l.Nodup) : (addK l k).Nodup := by
  unfold addK
  split
  · exact h
  · rename_i q
    rw [List.nodup_append]
    exact ⟨h, by simp, fun a ha b hb e => q (by rw [List.mem_singleton] at hb; rw [← hb, ← e]; exact ha)⟩
theorem foldK_mem : ∀ {ks l : List α} {x : α}, x ∈ ks.foldl addK l ↔ x ∈ l ∨ x ∈ ks
  | [], l, x => by simp
  | k :: ks, l, x => by
    rw [List.foldl_cons, foldK_mem, addK_mem, List.mem_cons, or_assoc]
theorem foldK_nodup : ∀ {ks l : List α}, l.Nodup → (ks.foldl addK l).Nodup
  | [], _, h => h
  | k :: ks, l, h => by
    rw [List.foldl_cons]
    exact foldK_nodup (addK_nodup h)
theorem dedupK_mem {ks : List α} {x : α} : x ∈ dedupK ks ↔ x ∈ ks := by unfold dedupK; rw [foldK_mem]; simp
theorem dedupK_nodup {ks : List α} : (dedupK ks).Nodup := foldK_nodup List.nodup_nil
theorem foldK_len : ∀ (ks l : List α), (ks.foldl addK l).length ≤ l.length + ks.length
  | [], l => by simp
  | k :: ks, l => by
    rw [List.foldl_cons, List.length_cons]
    have := foldK_len ks (addK l k)
    have h2 : (addK l k).length ≤ l.length + 1 := by unfold addK; split <;> simp
    omega
theorem dedupK_len (ks : List α) : (dedupK ks).length ≤ ks.length := by have := foldK_len ks []; simpa [dedupK] using this
end
theorem putK_keys (kvs : List (Key × V)) (k : Key) (v : V) : (putK kvs k v).map (·.1) = addK (kvs.map (·.1)) k := by
  unfold putK addK
  by_cases h : k ∈ kvs.map (·.1)
  · have h1 : (kvs.any fun kv => decide (kv.1 = k)) = true := by
      obtain ⟨p, hp, e⟩ := List.mem_map.mp h
      exact List.any_eq_true.mpr ⟨p, hp, decide_eq_true e⟩
    rw [if_pos h1, if_pos h, List.map_map]
    refine List.map_congr_left fun p _ => ?_
    show (if p.1 = k then (p.1, v) else p).1 = p.1
    split <;> rfl
  · have h1 : ¬ (kvs.any fun kv => decide (kv.1 = k)) = true := fun q => by
      obtain ⟨p, hp, e⟩ := List.any_eq_true.mp q
      exact h (List.mem_map.mpr ⟨p, hp, of_decide_eq_true e⟩)
    rw [if_neg h1, if_neg h, List.map_append]
    rfl
def keyP : PD → Option Key
  | .int i => some (.inl i)
  | .str x => some (.inr x)
  | _ => none
def keysP : List PD → Option (List Key)
  | [] => some []
  | d :: r => match keyP d, keysP r with
    | some k, some ks => some (k :: ks)
    | _, _ => none
theorem keysP_cons {d : PD} {r : List PD} {ks : List Key} (h : keysP (d :: r) = some ks) : ∃ k ks', keyP d = some k ∧ keysP r = some ks' ∧ ks = k :: ks' := by
  unfold keysP at h
  split at h
  · rename_i k ks' e1 e2
    cases h
    exact ⟨k, ks', e1, e2, rfl⟩
  · cases h
theorem keysP_get : ∀ {ds : List PD} {ks : List Key} {i : Nat} {d : PD}, keysP ds = some ks → ds[i]? = some d → ∃ k, ks[i]? = some k ∧ keyP d = some k
  | [], _, _, _, _, e => by simp at e
  | x :: r, ks, 0, d, h, e => by
    obtain ⟨k, ks', h1, h2, rfl⟩ := keysP_cons h
    rw [List.getElem?_cons_zero] at e
    cases e
    exact ⟨k, rfl, h1⟩
  | x :: r, ks, i + 1, d, h, e => by
    obtain ⟨k, ks', h1, h2, rfl⟩ := keysP_cons h
    rw [List.getElem?_cons_succ] at e
    obtain ⟨k', a, b⟩ := keysP_get h2 e
    exact ⟨k', by rw [List.getElem?_cons_succ]; exact a, b⟩
theorem keysP_len : ∀ {ds : List PD} {ks : List Key}, keysP ds = some ks → ks.length = ds.length
  | [], _, h => by cases h; rfl
  | x :: r, ks, h => by
    obtain ⟨k, ks', h1, h2, rfl⟩ := keysP_cons h
    rw [List.length_cons, List.length_cons, keysP_len h2]
theorem keyV {K : Fg} {G : Hp} {v : V} {d : PD} {k : Key} (r : DR K G v d) (h : keyP d = some k) : v = kV k := by
  cases r <;> cases h <;> rfl
section
variable {X : Cx} {W : WX}
def mDc (i : Nat) (mi : EnvM → Bag → Res (List PD)) (f : List Key → Bag → Res PD) : EnvM → Bag → Res PD := fun env B => if i < env.length then (mi env B).bind fun ds B1 => (match keysP ds with
  | some ks => if ks.length ≤ sizeLine then f ks B1 else .bad
  | none => .bad) else .bad
theorem dc_sem (i : Nat) {tg iter : Expr} {wi : TI} {mi : EnvM → Bag → Res (List PD)} {f : List Key → Bag → Res PD} {w : Wd} {G0 H0 : Hp} {σ : L2.St} {env : EnvM} {G H : Hp} {B : Bag} {Q Q' : VK} (hi : WI X W true tg iter wi mi) (R : Rel X.K w G0 H0 σ env G H B)
    (h : PostE X.K X.mg w G H (mDc i mi f env B) Q (fun c d H' => W c d σ H'))
    (hQ : ∀ (ks : List Key) (B1 : Bag) (G1 H1 H2 : Hp) (D : Addr) (kvs : List (Key × V)), PostE X.K X.mg w G1 H1 (f ks B1) Q (fun c d H' => W c d σ H') → Step w G1 H1 G1 H2 → Ok w G1 H2 B1 → H2 D = some (.dK kvs) → kvs.map (·.1) = dedupK ks → Q' (.ref D) H2) :
    tDc wi (gName i) tYes (tVar i) (tC (.bl true)) [i] σ H Q' := by
  unfold mDc at h
  by_cases hlen : i < env.length
  · rw [if_pos hlen] at h
    refine hi.sem w G0 H0 σ env G H B _ R (PostR.bind h fun ds B1 J G1 H1 s1 o1 wk h1 => ?_)
    cases hk : keysP ds with
    | none => simp only [hk] at h1; exact h1.elim
    | some ks =>
      simp only [hk] at h1
      by_cases hl : ks.length ≤ sizeLine
      · rw [if_pos hl] at h1
        have hkl := keysP_len hk
        intro D hD
        have nD : Nb w D := o1.nb hD
        refine ⟨fun j m H => m = ks.length - j ∧ j ≤ ks.length ∧ ∃ kvs, Step w G1 H1 G1 H ∧ Ok w G1 H B1 ∧ H D = some (.dK kvs) ∧ kvs.map (·.1) = dedupK (ks.take j),
          ⟨ks.length, by simp, Nat.zero_le _, [], Step.newH hD, o1.newH hD, upd_same, rfl⟩, ?_⟩
        rintro j m H2 ⟨rfl, hj, kvs, s2, o2, hD2, hkv⟩
        by_cases hlt : j < ks.length
        · right
          have hd : ds[j]? = some ds[j] := by simp [← hkl, hlt]
          obtain ⟨k, e1, e2⟩ := keysP_get hk hd
          refine ⟨wk.go j H2 _ o2.sub hd, fun H => ∃ kvs, Step w G1 H1 G1 H ∧ Ok w G1 H B1 ∧ H D = some (.dK kvs) ∧ kvs.map (·.1) = dedupK (ks.take (j + 1)),
            fun H' q => ⟨ks.length - (j + 1), by omega, rfl, hlt, q⟩, fun x H3 y => ?_⟩
          obtain ⟨G3, s3, o3, d3⟩ := wk.yld j w G1 H2 B1 x H3 _ o2 (Sub.refl _) hd y
          have ex : x = kV k := keyV d3 e2
          have iσ : i < σ.length := by rw [← R.len]; exact hlen
          have e3 : ((wipe σ [i]).set i (some x))[i]? = some (some x) := List.getElem?_set_self (by rw [wipe_length]; exact iσ)
          refine ⟨wipe_set List.mem_cons_self |>.trans (wipe_wipe [i] fun _ z => z), ?_⟩
          refine ⟨x, e3, kvs, k, ex, s3.keep D _ nD.one (fun _ z => by cases z) hD2, ?_, putK kvs k (.bl true), ?_, ?_, upd_same, ?_⟩
          · have : kvs.length ≤ j := by
              have a := congrArg List.length hkv
              rw [List.length_map] at a
              have b := dedupK_len (ks.take j)
              rw [List.length_take] at b
              omega
            omega
          · exact ((s2.trans (show Step w G1 H2 G1 H3 from ⟨fun _ _ z => z, fun _ _ z => .inl z, s3.keep, s3.there⟩)).mutNew hD)
          · exact (show Ok w G1 H3 B1 from ⟨fun a o z => o3.sub a o (s3.exG a o z), o3.bag, o2.gb, o3.tabs, o2.gt, o2.gl⟩).mut (o1.free hD) nD (fun _ => by rw [s3.keep D _ nD.one (fun _ z => by cases z) hD2]; exact noCo (fun _ z => by cases z))
          · rw [putK_keys, hkv]
            unfold dedupK
            rw [List.take_add_one, e1, List.foldl_append]
            rfl
        · left
          have e : j = ks.length := by omega
          subst e
          rw [List.take_length] at hkv
          exact ⟨wk.stop _ H2 o2.sub (by omega), hQ ks B1 G1 H1 H2 D kvs h1 s2 o2 hD2 hkv⟩
      · rw [if_neg hl] at h1; exact h1.elim
  · rw [if_neg hlen] at h; exact h.elim
def mDcLen (i : Nat) (mi : EnvM → Bag → Res (List PD)) : EnvM → Bag → Res PD := mDc i mi fun ks B => .ok (.int ((dedupK ks).length : Int)) B
abbrev rLenD : List V → Hp → VK → Prop := fun xs H Q => ∃ a kvs, xs = [V.ref a] ∧ H a = some (.dK kvs) ∧ Q (.int kvs.length) H
theorem ed_dcLen (i : Nat) {x : Str} {iter : Expr} {scope : Scope} {j : Nat} {p p1 p2 p3 pos pos2 : Pos} {wi : TI} {mi : EnvM → Bag → Res (List PD)} (hc : X.calm = true) (hN : X.N.Nodup) (hm : X.mg "len" = none) (hi : WI X W true (.Name x p3) iter wi mi)
    (hk : ∀ (s : Shared) (H : Hp) (C : Addr) (cl : List (Str × Addr)) (fp : List Addr), PE (X.blk s H scope (compEnvC scope cl C X.env) fp) (.Name x p1) (tVar i)) (hgn : ∀ (s : Shared) (H : Hp) (C : Addr) (cl : List (Str × Addr)) (fp : List Addr), PG (X.blk s H scope (compEnvC scope cl C X.env) fp) (.Name x p3) (gName i))
    (ok : blkC X.N X.env.scope scope [(x, i)] = true := by rfl) (hs : ∀ y, foldedSetIterable iter X.env y = pure y := by intro _; rfl) (hg : Gl X "len" := by rfl)
    (h1 : starEach [.DictComp (.Name x p1) (.Constant (.bool true) j p2) [⟨.Name x p3, iter, [], 0⟩] scope pos2] X.env = (false, eval (.DictComp (.Name x p1) (.Constant (.bool true) j p2) [⟨.Name x p3, iter, [], 0⟩] scope pos2) X.env) :: starEach [] X.env := by rfl) (hpl : (backTo pos (starEach [] X.env)).any (·.1) = false := by rfl) :
    ED X W (.Call (.Name "len" p) [.DictComp (.Name x p1) (.Constant (.bool true) j p2) [⟨.Name x p3, iter, [], 0⟩] scope pos2] [] pos) (tCB rLenD (tCons (tDc wi (gName i) tYes (tVar i) (tC (.bl true)) [i]) tNil)) (mDcLen i mi) := by
  refine ⟨pe_callB call_lenD hg hm PySem.boot_len (pa_cons (pe_dc (own := [(x, i)]) hc hN hi.pe (blkOk_by ok) hgn (fun _ _ _ _ _ => pts_nil) hk (fun _ _ _ _ _ => pe_bl) hs) pa_nil h1) (by decide) (by decide) h1 hpl, fun w G0 H0 σ env G H B Q R h => ?_⟩
  refine dc_sem (Q' := fun x H2 => rLenD [x] H2 Q) i hi R h fun ks B1 G1 H1 H2 D kvs hp s2 o2 hD hkv => ?_
  have e : kvs.length = (dedupK ks).length := by rw [← hkv, List.length_map]
  exact ⟨D, kvs, rfl, hD, by rw [e]; exact hp _ G1 H2 s2 o2 (.int _)⟩
def intKeys : List Key → Option (List Int)
  | [] => some []
  | .inl i :: r => (intKeys r).map (i :: ·)
  | .inr _ :: _ => none
theorem intKeys_eq : ∀ {ks : List Key} {ns : List Int}, intKeys ks = some ns → ks = ns.map Sum.inl
  | [], ns, h => by cases h; rfl
  | .inl i :: r, ns, h => by
    unfold intKeys at h
    cases e : intKeys r with
    | none => rw [e] at h; cases h
    | some ms => rw [e] at h; cases h; rw [intKeys_eq e]; rfl
  | .inr _ :: _, _, h => by cases h
theorem foldK_inl : ∀ (ns l : List Int), (ns.map Sum.inl : List Key).foldl addK (l.map Sum.inl) = (ns.foldl addK l).map Sum.inl
  | [], l => rfl
  | n :: r, l => by
    rw [List.map_cons, List.foldl_cons, List.foldl_cons]
    have e : addK (l.map Sum.inl : List Key) (Sum.inl n) = (addK l n).map Sum.inl := by
      unfold addK
      have : (Sum.inl n : Key) ∈ (l.map Sum.inl : List Key) ↔ n ∈ l := by simp
      by_cases h : n ∈ l
      · rw [if_pos h, if_pos (this.mpr h)]
      · rw [if_neg h, if_neg (fun z => h (this.mp z)), List.map_append]; rfl
    rw [e, foldK_inl r]
def mDcSrt (i : Nat) (mi : EnvM → Bag → Res (List PD)) : EnvM → Bag → Res PD := mDc i mi fun ks B => match intKeys ks with
  | some ns => if ns.length < 64 then .ok (.list ((riseI ns).map PyData.int)) B else .bad
  | none => .bad
abbrev rSrtD : List V → Hp → VK → Prop := fun xs H Q => ∃ (a : Addr) (kvs : List (Key × V)) (ks : List Int), xs = [.ref a] ∧ Rd H a (.dK kvs) ∧ kvs.map (·.1) = ks.map Sum.inl ∧ ks.length < 64 ∧ ∀ (ys : List Int) (p : Addr), ys.Perm ks → ys.Pairwise (· ≤ ·) → H p = none → Q (.ref p) (upd H p (.lst (ys.map V.int)))
theorem ed_dcSrt (i : Nat) {x : Str} {iter : Expr} {scope : Scope} {j : Nat} {p p1 p2 p3 pos pos2 : Pos} {wi : TI} {mi : EnvM → Bag → Res (List PD)} (hc : X.calm = true) (hN : X.N.Nodup) (hm : X.mg "sorted" = none) (hi : WI X W true (.Name x p3) iter wi mi)
    (hk : ∀ (s : Shared) (H : Hp) (C : Addr) (cl : List (Str × Addr)) (fp : List Addr), PE (X.blk s H scope (compEnvC scope cl C X.env) fp) (.Name x p1) (tVar i)) (hgn : ∀ (s : Shared) (H : Hp) (C : Addr) (cl : List (Str × Addr)) (fp : List Addr), PG (X.blk s H scope (compEnvC scope cl C X.env) fp) (.Name x p3) (gName i))
    (ok : blkC X.N X.env.scope scope [(x, i)] = true := by rfl) (hs : ∀ y, foldedSetIterable iter X.env y = pure y := by intro _; rfl) (hg : Gl X "sorted" := by rfl)
    (h1 : starEach [.DictComp (.Name x p1) (.Constant (.bool true) j p2) [⟨.Name x p3, iter, [], 0⟩] scope pos2] X.env = (false, eval (.DictComp (.Name x p1) (.Constant (.bool true) j p2) [⟨.Name x p3, iter, [], 0⟩] scope pos2) X.env) :: starEach [] X.env := by rfl) (hpl : (backTo pos (starEach [] X.env)).any (·.1) = false := by rfl) :
    ED X W (.Call (.Name "sorted" p) [.DictComp (.Name x p1) (.Constant (.bool true) j p2) [⟨.Name x p3, iter, [], 0⟩] scope pos2] [] pos) (tCB rSrtD (tCons (tDc wi (gName i) tYes (tVar i) (tC (.bl true)) [i]) tNil)) (mDcSrt i mi) := by
  refine ⟨pe_callB (call_sortedDI hc) hg hm (by decide +kernel) (pa_cons (pe_dc (own := [(x, i)]) hc hN hi.pe (blkOk_by ok) hgn (fun _ _ _ _ _ => pts_nil) hk (fun _ _ _ _ _ => pe_bl) hs) pa_nil h1) (by decide) (by decide) h1 hpl, fun w G0 H0 σ env G H B Q R h => ?_⟩
  refine dc_sem (Q' := fun x H2 => rSrtD [x] H2 Q) i hi R h fun ks B1 G1 H1 H2 D kvs hp s2 o2 hD hkv => ?_
  cases e : intKeys ks with
  | none => simp only [e] at hp; exact hp.elim
  | some ns =>
    simp only [e] at hp
    by_cases hl : ns.length < 64
    · rw [if_pos hl] at hp
      have e1 := intKeys_eq e
      subst e1
      have e2 : dedupK (ns.map Sum.inl : List Key) = (dedupK ns).map Sum.inl := foldK_inl ns []
      refine ⟨D, kvs, dedupK ns, rfl, .inl hD, by rw [hkv, e2], by have := dedupK_len ns; omega, fun ys q pm pw hq => ?_⟩
      have pw2 : ys.Pairwise (· < ·) := by
        have nd : ys.Nodup := pm.nodup_iff.mpr dedupK_nodup
        refine (pw.and nd).imp fun ⟨a, b⟩ => ?_
        omega
      have e3 : ys = riseI ns := rise_eq pw2 fun k => by rw [pm.mem_iff, dedupK_mem]
      subst e3
      exact hp _ _ _ (s2.trans (Step.new o2.sub hq)) (o2.new hq) (.lst upd_same (DRs.ints _))
    · rw [if_neg hl] at hp; exact hp.elim
end
end DL
set_option Elab.async false
set_option linter.all false
set_option maxRecDepth 100000
set_option maxHeartbeats 4000000
/-! DL9: the bag's making, the law's frame. -/
namespace DL
open PySem L2
open ZT (PT)
def cellsOf (ns : List Int) : List Nat := ns.map Int.natAbs
def spBag (K : Fg) : Sp := fun vs H Q _ => ∃ (a : Addr) (ns : List Int), vs = [.ref a] ∧ SqL K H a (ns.map V.int) ∧ ns.length ≤ 63 ∧
  ∀ (b l : Addr) (H' : Hp), l ≠ b → Sub H H' → H' b = some (.lst [.int 0, .int 1234567891, .int 0, .ref l]) → H' l = some (.lst ((cellsOf ns).map fun n : Nat => V.int (n : Int))) → Q (.ref b) H'
def spLaw (K : Fg) : Sp := fun vs H Q _ => ∃ (a : Addr) (ns : List Int), vs = [.ref a] ∧ SqL K H a (ns.map V.int) ∧ ns.length ≤ 63 ∧ ∀ H', Q (.bl true) H'
def tBag (K : Fg) (i : Nat) : TE := tLst (tCons (tC (.int 0)) (tCons (tC (.int 1234567891)) (tCons (tC (.int 0)) (tCons (tLc (iList K (tSl (rSlL K) (tVar 0) tNoPart (tPart (tC (.int 63))))) (gName i) tYes (tCB rAbs (tCons (tVar i) tNil)) [i]) tNil))))
theorem bag_sem {K : Fg} {i : Nat} {σ : L2.St} {H : Hp} {Q : VK} {a : Addr} {ns : List Int} (hi : i < σ.length) (h0 : σ[0]? = some (some (.ref a))) (hs : SqL K H a (ns.map V.int)) (hl : ns.length ≤ 63)
    (k : ∀ (b l : Addr) (H' : Hp), l ≠ b → Sub H H' → H' b = some (.lst [.int 0, .int 1234567891, .int 0, .ref l]) → H' l = some (.lst ((cellsOf ns).map fun n : Nat => V.int (n : Int))) → Q (.ref b) H') : tBag K i σ H Q := by
  have hlen : (ns.map V.int).length = ns.length := List.length_map _
  have h63 : 63 ≤ sizeLine := by decide
  refine ⟨_, h0, 63, rfl, a, ns.map V.int, rfl, hs, fun p hp => ⟨p, rfl, ⟨_, SqL.of upd_same⟩, ?_⟩⟩
  · have cut : cutV (ns.map V.int) none (some 63) = ns.map V.int := by
      have e2 : HT.sIx (ns.map V.int).length (ns.map V.int).length (some 63) = (ns.map V.int).length := by
        have e3 : HT.sIx (ns.map V.int).length (ns.map V.int).length (some ((63 : Nat) : Int)) = min 63 (ns.map V.int).length := HT.sIx_nat _ _ 63
        have e4 : min 63 (ns.map V.int).length = (ns.map V.int).length := by omega
        exact e3.trans e4
      unfold cutV
      rw [e2, HT.sIx_none, List.drop_zero, Nat.sub_zero, List.take_length]
    rw [cut]
    intro D hD
    have npD : p ≠ D := fun z => by rw [← z, upd_same] at hD; cases hD
    have hHD : H D = none := by rw [upd_ne npD.symm] at hD; exact hD
    refine lc_list (K := K) (a := p) (xs := ns.map V.int) (fun j H' => Sub H H' ∧ H' p = some (.lst (ns.map V.int)) ∧ H' D = some (.lst ((cellsOf (ns.take j)).map fun n : Nat => V.int (n : Int))) ∧ j ≤ ns.length) ⟨fun c o e => ?_, ?_, upd_same, Nat.zero_le _⟩ (fun j H' _ q => SqL.of q.2.1) ?_ ?_
    · rw [upd_ne (ne_of_none e hHD), upd_ne (ne_of_none e hp)]; exact e
    · rw [upd_ne npD]; exact upd_same
    · rintro j x H' hx ⟨q1, q2, q3, q4⟩
      obtain ⟨n, e1, e2⟩ : ∃ n, ns[j]? = some n ∧ x = .int n := by
        rw [List.getElem?_map] at hx
        cases e : ns[j]? with
        | none => rw [e] at hx; cases hx
        | some n => rw [e] at hx; exact ⟨n, rfl, (Option.some.inj hx).symm⟩
      subst e2
      have hj : j < ns.length := (List.getElem?_eq_some_iff.mp e1).1
      have e3 : ((wipe σ [i]).set i (some (.int n)))[i]? = some (some (.int n)) := List.getElem?_set_self (by rw [wipe_length]; exact hi)
      refine ⟨(wipe_set List.mem_cons_self).trans (wipe_wipe [i] fun _ z => z), ?_⟩
      have ez : (if n < 0 then -n else n) = ((n.natAbs : Nat) : Int) := by split <;> omega
      refine ⟨_, e3, n, rfl, _, q3, ?_, fun c o e => ?_, ?_, ?_, hj⟩
      · unfold cellsOf
        rw [List.length_map, List.length_map, List.length_take]
        omega
      · have nD : c ≠ D := fun z => by rw [z, hHD] at e; cases e
        rw [upd_ne nD]; exact q1 c o e
      · rw [upd_ne npD]; exact q2
      · rw [upd_same, ez]
        unfold cellsOf
        rw [List.take_add_one, e1, List.map_append, List.map_append]
        rfl
    · rintro H' ⟨q1, q2, q3, q4⟩
      rw [hlen, List.take_length] at q3
      refine ⟨(by decide : 4 ≤ sizeLine), fun b hb => ?_⟩
      have nDb : D ≠ b := ne_of_none q3 hb
      exact k b D _ nDb (fun c o e => by rw [upd_ne (ne_of_none (q1 c o e) hb)]; exact q1 c o e) upd_same (by rw [upd_ne nDb]; exact q3)
/-- the law's start: the slots empty but the bag's -/
def envL (n ib : Nat) : EnvM := (List.replicate n none).set ib (some .bag)
def bag0 (ns : List Int) : Bag := ⟨0, 1234567891, 0, cellsOf ns⟩
theorem law_rel {K : Fg} {H : Hp} {σ : L2.St} {b l : Addr} {ns : List Int} {n ib : Nat} (hn : σ.length = n) (hb : H b = some (.lst [.int 0, .int 1234567891, .int 0, .ref l])) (hl : H l = some (.lst ((cellsOf ns).map fun n : Nat => V.int (n : Int)))) (nlb : l ≠ b) (hs : σ[ib]? = some (some (.ref b))) {T : List (Addr × Str)} (hT : LamX.Tabs T H) (hTK : T = TK K) :
    Rel K ⟨some (b, l), T⟩ (upd (fun _ => none) l (.lst ((cellsOf ns).map fun n : Nat => V.int (n : Int)))) H σ (envL n ib) (upd (fun _ => none) l (.lst ((cellsOf ns).map fun n : Nat => V.int (n : Int)))) H (bag0 ns) := by
  have only : ∀ (j : Nat) (sv : SV), (envL n ib)[j]? = some (some sv) → j = ib ∧ sv = .bag := fun j sv e => by
    unfold envL at e
    by_cases hj : ib = j
    · subst hj
      by_cases h : ib < (List.replicate n (none : Option SV)).length
      · rw [List.getElem?_set_self h] at e
        cases e
        exact ⟨rfl, rfl⟩
      · rw [List.getElem?_eq_none (by rw [List.length_set]; omega)] at e; cases e
    · rw [List.getElem?_set_ne hj, List.getElem?_replicate] at e
      split at e <;> cases e
  refine ⟨⟨fun c o e => ?_, fun b' l' e => ?_, fun b' l' e => ?_, hT, gt_upd (fun _ _ z => by cases z) (fun _ z => by cases z), fun b' l' e => ?_⟩, Step.refl, by unfold envL; rw [List.length_set, List.length_replicate]; exact hn.symm, fun j sv e => ?_, fun j k sj sk p hjk e1 o1 _ _ _ => ?_, hTK⟩
  · by_cases h : c = l
    · subst h; rw [upd_same] at e; cases e; exact hl
    · rw [upd_ne h] at e; cases e
  · cases e; exact ⟨hb, nlb, hl⟩
  · cases e; rw [upd_ne nlb.symm]
  · cases e; exact upd_same
  · obtain ⟨rfl, rfl⟩ := only j sv e
    exact ⟨_, hs, b, l, rfl, rfl⟩
  · obtain ⟨_, rfl⟩ := only j sj e1
    cases o1
/-- the law by its mirror -/
theorem law_sem {X : Cx} {t : TS} {rest : List Stmt} {m : EnvM → Bag → SRes} {σ : L2.St} {H : Hp} {Q : VK} {a : Addr} {ns : List Int} {n ib : Nat} (hr : SDs X W0 rest t m) (hn : σ.length = n) (hib : ib < n) (h0 : σ[0]? = some (some (.ref a))) (hs : SqL X.K H a (ns.map V.int)) (hl : ns.length ≤ 63)
    (hm : ∃ B, m (envL n ib) (bag0 ns) = .ret (.bool true) B) (k : ∀ H', Q (.bl true) H') (E : XK) (hT : LamX.Tabs (TK X.K) H) :
    tSeq (tAsg (tCall (spBag X.K) [] E (tCons (tVar 0) tNil)) (gName ib)) t { nx := fun _ H' => Q .non H', rt := Q } σ H := by
  refine ⟨_, h0, a, ns, rfl, hs, hl, fun b l H' nlb sb hb hl' => ?_⟩
  obtain ⟨B, e⟩ := hm
  have R := law_rel (K := X.K) (σ := σ.set ib (some (.ref b))) (n := n) (ib := ib) (by rw [List.length_set]; exact hn) hb hl' nlb (List.getElem?_set_self (by omega)) (T := TK X.K) (hT.ext sb) rfl
  refine hr.sem _ _ _ _ _ _ _ _ _ R ?_
  rw [e]
  intro v G' H2 s2 o2 d
  cases d
  exact k H2
end DL
set_option Elab.async false
set_option linter.all false
set_option maxRecDepth 100000
set_option maxHeartbeats 4000000
/-! DL10: lists, tuples and texts walked. -/
namespace DL
open PySem L2
open ZT (PT)
def signsOf (x : Str) : List PD := x.cps.toList.map fun c => PyData.str ⟨#[c]⟩
theorem Walks.str {K : Fg} {G : Hp} {x : Str} : Walks K true (Its x) G (signsOf x) where
  go := fun i H d hs e => by
    have q := (List.getElem?_eq_some_iff.mp e).1
    unfold signsOf at q
    rw [List.length_map, Array.length_toList] at q
    exact q
  yld := fun i w G' H B v H' d o hs e y => by
    obtain ⟨e1, c, h1, h2⟩ := y
    subst e1
    subst h2
    unfold signsOf at e
    rw [List.getElem?_map, Array.getElem?_toList, h1] at e
    cases e
    exact ⟨G', Step.refl, o, .str _⟩
  stop := fun i H hs e => by
    unfold signsOf at e
    rw [List.length_map, Array.length_toList] at e
    exact e
def mSeqOfS (m : EnvM → Bag → Res PD) : EnvM → Bag → Res (List PD) := fun env B => (m env B).bind fun d B1 => match d with
  | .list ds => .ok ds B1
  | .tuple ds => .ok ds B1
  | .str x => .ok (signsOf x) B1
  | _ => .bad
theorem wi_seqSK {X : Cx} {W : WX} (K : Fg) {tg e : Expr} {t : TE} {m : EnvM → Bag → Res PD} (h : ED X W e t m) (hK : X.K = K := by rfl) : WI X W true tg e (fun σ H R => (iList K t σ H R ∨ iTup K t σ H R) ∨ iStr t σ H R) (mSeqOfS m) := by
  subst hK
  refine ⟨pi_or (pi_or (pi_list h.pe) (pi_tup h.pe)) (pi_str h.pe), fun w G0 H0 σ env G H B Q R hp => ?_⟩
  unfold mSeqOfS at hp
  cases e : m env B with
  | ok d B1 =>
    rw [e] at hp
    have mk : ∀ Q1 : VK, (∀ v G' H', Step w G H G' H' → Ok w G' H' B1 → DR X.K G' v d → Q1 v H') → PostE X.K X.mg w G H (m env B) Q1 (fun c d H' => W c d σ H') := fun Q1 k => by
      rw [e]
      exact k
    cases d with
    | list ds =>
      left; left
      refine h.sem w G0 H0 σ env G H B _ R (mk _ fun v G' H' s o dv => ?_)
      cases dv with
      | lst hx r => exact ⟨_, rfl, ⟨_, subL o.sub hx⟩, hp _ G' H' s o (Walks.list hx r)⟩
    | tuple ds =>
      left; right
      refine h.sem w G0 H0 σ env G H B _ R (mk _ fun v G' H' s o dv => ?_)
      cases dv with
      | tup hx r => exact ⟨_, rfl, ⟨_, subT o.sub hx⟩, hp _ G' H' s o (Walks.tuple hx r)⟩
    | str x =>
      right
      refine h.sem w G0 H0 σ env G H B _ R (mk _ fun v G' H' s o dv => ?_)
      cases dv
      exact ⟨x, rfl, hp _ G' H' s o Walks.str⟩
    | _ => exact (show False from hp).elim
  | exc c as B1 =>
    rw [e] at hp
    left; left
    refine h.sem w G0 H0 σ env G H B _ R ?_
    rw [e]
    exact hp
  | bad => rw [e] at hp; exact hp.elim
end DL
set_option Elab.async false
set_option linter.all false
set_option maxRecDepth 100000
set_option maxHeartbeats 4000000
/-! PLB: the mirrors evaluated, step by step. -/
namespace DL
open PySem L2
section
variable {env e1 e2 : EnvM} {B B1 B2 B3 : Bag} {ma mb mc : EnvM → Bag → Res PD} {x y z d : PD} {g g' : PD → PD → Option PD} {c : PD → PD → Option Bool} {k k' : Bool}
theorem r_c : mC d env B = .ok d B := rfl
theorem r_var {i : Nat} (h : env[i]? = some (some (.d x))) : mVar i env B = .ok x B := by unfold mVar; rw [h]
theorem r_op (ha : ma env B = .ok x B1) (hb : mb env B1 = .ok y B2) (hg : g x y = some z) : mOp g ma mb env B = .ok z B2 := by
  unfold mOp; rw [ha]; show (mb env B1).bind _ = _; rw [hb]; show (match g x y with | some z => Res.ok z B2 | none => .bad) = _; rw [hg]
theorem r_cmp (ha : ma env B = .ok x B1) (hb : mb env B1 = .ok y B2) (hg : c x y = some k) : mCmp c ma mb env B = .ok k B2 := by
  unfold mCmp; rw [ha]; show (mb env B1).bind _ = _; rw [hb]; show (match c x y with | some z => Res.ok z B2 | none => .bad) = _; rw [hg]
theorem r_b {m : EnvM → Bag → Res Bool} (h : m env B = .ok k B1) : mB m env B = .ok (.bool k) B1 := by unfold mB; rw [h]; rfl
theorem r_chF {c' : PD → PD → Option Bool} (ha : ma env B = .ok x B1) (hb : mb env B1 = .ok y B2) (hg : c x y = some false) : mChain c c' ma mb mc env B = .ok false B2 := by
  unfold mChain; rw [ha]; show (mb env B1).bind _ = _; rw [hb]; simp only [Res.bind, hg]
theorem r_chT {c' : PD → PD → Option Bool} (ha : ma env B = .ok x B1) (hb : mb env B1 = .ok y B2) (hg : c x y = some true) (hc : mc env B2 = .ok z B3) (hg' : c' y z = some k) : mChain c c' ma mb mc env B = .ok k B3 := by
  unfold mChain; rw [ha]; show (mb env B1).bind _ = _; rw [hb]; simp only [Res.bind, hg, hc, hg']
/-- both comparisons pure -/
theorem r_ch {c' : PD → PD → Option Bool} (ha : ma env B = .ok x B1) (hb : mb env B1 = .ok y B2) (hg : c x y = some k) (hc : mc env B2 = .ok z B2) (hg' : c' y z = some k') : mChain c c' ma mb mc env B = .ok (k && k') B2 := by
  cases k with
  | false => exact r_chF ha hb hg
  | true => rw [Bool.true_and]; exact r_chT ha hb hg hc hg'
theorem r_tru (h : ma env B = .ok x B1) (e : truP x = some k) : mTru truP ma env B = .ok k B1 := by unfold mTru; rw [h]; simp only [Res.bind, e]
theorem r_truB (h : ma env B = .ok (.bool k) B1) : mTru truP ma env B = .ok k B1 := r_tru h rfl
theorem r_not {m : EnvM → Bag → Res Bool} (h : m env B = .ok k B1) : mNot m env B = .ok (!k) B1 := by unfold mNot; rw [h]; rfl
theorem r_andF {m n : EnvM → Bag → Res Bool} (h : m env B = .ok false B1) : mAnd m n env B = .ok false B1 := by unfold mAnd; rw [h]; rfl
theorem r_andT {m n : EnvM → Bag → Res Bool} {r : Res Bool} (h : m env B = .ok true B1) (h2 : n env B1 = r) : mAnd m n env B = r := by unfold mAnd; rw [h]; exact h2
theorem r_orT {m n : EnvM → Bag → Res Bool} (h : m env B = .ok true B1) : mOr m n env B = .ok true B1 := by unfold mOr; rw [h]; rfl
theorem r_orF {m n : EnvM → Bag → Res Bool} {r : Res Bool} (h : m env B = .ok false B1) (h2 : n env B1 = r) : mOr m n env B = r := by unfold mOr; rw [h]; exact h2
/-- the second read only if the first is false, and then without a change -/
theorem r_or {m n : EnvM → Bag → Res Bool} (h : m env B = .ok k B1) (h2 : k = false → n env B1 = .ok k' B1) : mOr m n env B = .ok (k || k') B1 := by
  cases k with
  | true => exact r_orT h
  | false => rw [Bool.false_or]; exact r_orF h (h2 rfl)
theorem r_andV (h : ma env B = .ok (.bool k) B1) (h2 : k = true → mb env B1 = .ok (.bool k') B1) : mAndV ma mb env B = .ok (.bool (k && k')) B1 := by
  cases k with
  | false => unfold mAndV; rw [h]; rfl
  | true => unfold mAndV; rw [h, Bool.true_and]; exact h2 rfl
theorem r_orV (h : ma env B = .ok (.bool k) B1) (h2 : k = false → mb env B1 = .ok (.bool k') B1) : mOrV ma mb env B = .ok (.bool (k || k')) B1 := by
  cases k with
  | true => unfold mOrV; rw [h]; rfl
  | false => unfold mOrV; rw [h, Bool.false_or]; exact h2 rfl
theorem r_notV (h : ma env B = .ok (.bool k) B1) : mNotV ma env B = .ok (.bool (!k)) B1 := by unfold mNotV; rw [h]; rfl
theorem r_isi {f : PD → Bool} (h : ma env B = .ok x B1) : mIsi f ma env B = .ok (.bool (f x)) B1 := by unfold mIsi; rw [h]; rfl
theorem r_isi2 {f h' : PD → Bool} (h : ma env B = .ok x B1) : mIsi2 f h' ma env B = .ok (.bool (f x || h' x)) B1 := by unfold mIsi2; rw [h]; rfl
theorem r_neg {i : Int} (h : ma env B = .ok (.int i) B1) : mNeg ma env B = .ok (.int (-i)) B1 := by unfold mNeg; rw [h]; rfl
theorem r_g (h : ma env B = .ok x B1) : mG ma env B = .ok (.d x) B1 := by unfold mG; rw [h]; rfl
theorem r_bag {i : Nat} (h : env[i]? = some (some .bag)) : mBag i env B = .ok .bag B := by unfold mBag; rw [h]
theorem r_nil : mNil env B = .ok [] B := rfl
theorem r_cons {a : EnvM → Bag → Res SV} {r : EnvM → Bag → Res (List SV)} {s : SV} {ss : List SV} (h : a env B = .ok s B1) (h2 : r env B1 = .ok ss B2) : mCons a r env B = .ok (s :: ss) B2 := by
  unfold mCons; rw [h]; show (r env B1).bind _ = _; rw [h2]; rfl
theorem r_tup {m : EnvM → Bag → Res (List SV)} {ss : List SV} {ds : List PD} (h : m env B = .ok ss B1) (hu : unD ss = some ds) (hl : ds.length ≤ sizeLine) : mTup m env B = .ok (.tuple ds) B1 := by
  unfold mTup; rw [h]; simp only [Res.bind, hu, hl, if_true]
theorem r_lst {m : EnvM → Bag → Res (List SV)} {ss : List SV} {ds : List PD} (h : m env B = .ok ss B1) (hu : unD ss = some ds) (hl : ds.length ≤ sizeLine) : mLst m env B = .ok (.list ds) B1 := by
  unfold mLst; rw [h]; simp only [Res.bind, hu, hl, if_true]
theorem r_ca {g : List PD → Option PD} {m : EnvM → Bag → Res (List SV)} {ss : List SV} (h : m env B = .ok ss B1) (hg : (unD ss).bind g = some z) : mCa g m env B = .ok z B1 := by
  unfold mCa; rw [h]; simp only [Res.bind, hg]
theorem r_call {np : Nat} {f : List SV → Bag → Res PD} {m : EnvM → Bag → Res (List SV)} {ss : List SV} (h : m env B = .ok ss B1) (hl : ss.length = np) (hf : f ss B1 = .ok z B2) : mCall np f m env B = .ok z B2 := by
  unfold mCall; rw [h]; simp only [Res.bind, hl, if_true, hf]
theorem r_bagIx {i n : Nat} (h : env[i]? = some (some .bag)) (e : bagIx B n = some z) : mBagIx i n env B = .ok z B := by unfold mBagIx; rw [h]; simp only [e]
theorem r_sl {ml mh : EnvM → Bag → Res (Option Int)} {lo hi : Option Int} (ha : ma env B = .ok x B1) (hl : ml env B1 = .ok lo B2) (hh : mh env B2 = .ok hi B3) (e : sliceP x lo hi = some z) : mSl ma ml mh env B = .ok z B3 := by
  unfold mSl; rw [ha]; simp only [Res.bind, hl, hh, e]
theorem r_noPart : mNoPart env B = .ok none B := rfl
theorem r_part {i : Int} (h : ma env B = .ok (.int i) B1) : mPart ma env B = .ok (some i) B1 := by unfold mPart; rw [h]; rfl
theorem r_seqL {ds : List PD} (h : ma env B = .ok (.list ds) B1) : mSeqOfS ma env B = .ok ds B1 := by unfold mSeqOfS; rw [h]; rfl
theorem r_seqT {ds : List PD} (h : ma env B = .ok (.tuple ds) B1) : mSeqOfS ma env B = .ok ds B1 := by unfold mSeqOfS; rw [h]; rfl
theorem r_range1 {m : EnvM → Bag → Res (List SV)} {j : Int} (h : m env B = .ok [.d (.int j)] B1) (hj : -(2 ^ 62) ≤ j ∧ j < 2 ^ 62) : mRange1 m env B = .ok (rangeP 0 j.toNat) B1 := by
  unfold mRange1; rw [h]; show (if _ then _ else _) = _; rw [if_pos hj]
theorem r_rev {ds : List PD} (h : ma env B = .ok (.tuple ds) B1) : mRev ma env B = .ok (.tuple ds.reverse) B1 := by unfold mRev; rw [h]; rfl
/-! statements -/
variable {a b : EnvM → Bag → SRes} {r : SRes}
theorem s_seq (h : a env B = .nx e1 B1) (h2 : b e1 B1 = r) : mSeq a b env B = r := by unfold mSeq; rw [h]; exact h2
theorem s_seqR {d : PD} (h : a env B = .ret d B1) : mSeq a b env B = .ret d B1 := by unfold mSeq; rw [h]
theorem s_set {m : EnvM → Bag → Res PD} {g : PD → EnvM → Option EnvM} (h : m env B = .ok x B1) (hg : g x env = some e1) : mSet g m env B = .nx e1 B1 := by unfold mSet; rw [h]; simp only [Res.s, hg]
theorem s_par {i j : Nat} {m : EnvM → Bag → Res (List SV)} (h : m env B = .ok [.d x, .d y] B1) : mPar i j m env B = .nx ((env.set i (some (.d x))).set j (some (.d y))) B1 := by unfold mPar; rw [h]; rfl
theorem s_ifT {m : EnvM → Bag → Res Bool} (h : m env B = .ok true B1) (h2 : a env B1 = r) : mIf m a b env B = r := by unfold mIf; rw [h]; exact h2
theorem s_ifF {m : EnvM → Bag → Res Bool} (h : m env B = .ok false B1) (h2 : b env B1 = r) : mIf m a b env B = r := by unfold mIf; rw [h]; exact h2
theorem s_ret {m : EnvM → Bag → Res PD} (h : m env B = .ok x B1) : mRet m env B = .ret x B1 := by unfold mRet; rw [h]; rfl
theorem s_skip : mSkip env B = .nx env B := rfl
theorem s_bagSet {i n : Nat} {m : EnvM → Bag → Res PD} {v : Int} (h : m env B = .ok (.int v) B1) (he : env[i]? = some (some .bag)) (hv : 0 ≤ v) (hs : bagSet B1 n v.toNat = some B2) : mBagSet i n m env B = .nx env B2 := by
  unfold mBagSet; rw [h]; simp only [Res.s, he, hv, if_true, hs]
theorem s_bagAug {i n j : Nat} {v : Int} (he : env[i]? = some (some .bag)) (hx : bagIx B n = some (.int v)) (hs : bagSet B n (v.toNat + j) = some B2) : mBagAug i n j env B = .nx env B2 := by
  unfold mBagAug; rw [he]; simp only [hx, hs]
theorem s_fn {n : Nat} {m : EnvM → Bag → SRes} {ss : List SV} {d : PD} (h : m (env0 n ss) B = .ret d B1) : mFn n m ss B = .ok d B1 := by unfold mFn; rw [h]; rfl
/-! loops -/
theorem loop_inv {g : PD → EnvM → Option EnvM} {body : EnvM → Bag → SRes} (I : EnvM → Bag → Prop) : ∀ {ds : List PD} {env : EnvM} {B : Bag}, (∀ d ∈ ds, ∀ env B, I env B → ∃ e1, g d env = some e1 ∧ ∃ e2 B2, body e1 B = .nx e2 B2 ∧ I e2 B2) → I env B → ∃ e2 B2, mLoop g body ds env B = .nx e2 B2 ∧ I e2 B2
  | [], env, B, _, i => ⟨env, B, rfl, i⟩
  | d :: ds, env, B, h, i => by
    obtain ⟨e1, h1, e2, B2, h2, i2⟩ := h d List.mem_cons_self env B i
    obtain ⟨e3, B3, h3, i3⟩ := loop_inv I (ds := ds) (fun d hd => h d (List.mem_cons_of_mem _ hd)) i2
    exact ⟨e3, B3, by unfold mLoop; simp only [h1, h2]; exact h3, i3⟩
theorem s_for {src : EnvM → Bag → Res (List PD)} {g : PD → EnvM → Option EnvM} {body : EnvM → Bag → SRes} (I : EnvM → Bag → Prop) {ds : List PD} (hs : src env B = .ok ds B1) (i : I env B1) (h : ∀ d ∈ ds, ∀ env B, I env B → ∃ e1, g d env = some e1 ∧ ∃ e2 B2, body e1 B = .nx e2 B2 ∧ I e2 B2) : ∃ e2 B2, mFor src g body env B = .nx e2 B2 ∧ I e2 B2 := by
  obtain ⟨e2, B2, h1, h2⟩ := loop_inv I h i
  exact ⟨e2, B2, by unfold mFor; rw [hs]; exact h1, h2⟩
/-- a comprehension that draws: each item by P -/
theorem lc_inv {g : PD → EnvM → Option EnvM} {m : EnvM → Bag → Res PD} {env0 : EnvM} (J : Bag → Prop) (P : PD → Prop) : ∀ {ds : List PD} {B : Bag}, (∀ d ∈ ds, ∃ e1, g d env0 = some e1 ∧ ∀ B, J B → ∃ y B2, m e1 B = .ok y B2 ∧ P y ∧ J B2) → J B → ∃ ys B2, mLcGo g mYes m env0 ds B = .ok ys B2 ∧ J B2 ∧ ys.length = ds.length ∧ ∀ y ∈ ys, P y
  | [], B, _, j => ⟨[], B, rfl, j, rfl, fun y hy => by cases hy⟩
  | d :: ds, B, h, j => by
    obtain ⟨e1, h1, hm⟩ := h d List.mem_cons_self
    obtain ⟨y, B2, h2, p, j2⟩ := hm B j
    obtain ⟨ys, B3, h3, j3, l3, p3⟩ := lc_inv J P (ds := ds) (fun d hd => h d (List.mem_cons_of_mem _ hd)) j2
    refine ⟨y :: ys, B3, ?_, j3, by simp [l3], fun z hz => ?_⟩
    · unfold mLcGo
      simp only [h1, mYes, h2, h3]
    · rcases List.mem_cons.mp hz with e | e
      · rw [e]; exact p
      · exact p3 z e
/-- a pure comprehension -/
theorem lc_pure {g : PD → EnvM → Option EnvM} {c : EnvM → Bag → Res Bool} {m : EnvM → Bag → Res PD} {env0 : EnvM} {B : Bag} (p : PD → Bool) (f : PD → PD) : ∀ {ds : List PD}, (∀ d ∈ ds, ∃ e1, g d env0 = some e1 ∧ c e1 B = .ok (p d) B ∧ (p d = true → m e1 B = .ok (f d) B)) → mLcGo g c m env0 ds B = .ok ((ds.filter p).map f) B
  | [], _ => rfl
  | d :: ds, h => by
    obtain ⟨e1, h1, h2, h3⟩ := h d List.mem_cons_self
    have ih := lc_pure p f (ds := ds) fun d hd => h d (List.mem_cons_of_mem _ hd)
    unfold mLcGo
    cases q : p d with
    | true =>
      rw [q] at h2
      simp only [h1, h2, h3 q, ih, List.filter_cons, q, if_true, List.map_cons]
    | false =>
      rw [q] at h2
      simp only [h1, h2, ih, List.filter_cons, q, Bool.false_eq_true, if_false]
theorem r_lc {vs : List Nat} {mi : EnvM → Bag → Res (List PD)} {g : PD → EnvM → Option EnvM} {c : EnvM → Bag → Res Bool} {m : EnvM → Bag → Res PD} {ds ys : List PD} (hi : mi env B = .ok ds B1) (hl : ds.length ≤ sizeLine) (h : mLcGo g c m (wipeE env vs) ds B1 = .ok ys B2) : mLc vs mi g c m env B = .ok (.list ys) B2 := by
  unfold mLc; rw [hi]; simp only [Res.bind, hl, if_true, h]
end
/-! numbers -/
theorem shaped_int (a : Int) : SeqAt.shaped (.int a) = true := by first | rfl | decide
theorem shaped_bool (a : Bool) : SeqAt.shaped (.bool a) = true := by cases a <;> first | rfl | decide
theorem eqP_int (a b : Int) : eqP (.int a) (.int b) = some (decide (a = b)) := by
  unfold eqP
  rw [if_pos ⟨shaped_int _, shaped_int _⟩]
  rfl
theorem neP_int (a b : Int) : neP (.int a) (.int b) = some (!decide (a = b)) := by
  unfold neP
  rw [if_pos ⟨shaped_int _, shaped_int _⟩]
  rfl
theorem neP_bool (a b : Bool) : neP (.bool a) (.bool b) = some (!(a == b)) := by
  unfold neP
  rw [if_pos ⟨shaped_bool _, shaped_bool _⟩]
  rfl
theorem addP_int (a b : Int) : addP (.int a) (.int b) = some (.int (a + b)) := rfl
theorem subP_int (a b : Int) : subP (.int a) (.int b) = some (.int (a - b)) := rfl
theorem ltP_int (a b : Int) : ltP (.int a) (.int b) = some (decide (a < b)) := rfl
theorem leP_int (a b : Int) : leP (.int a) (.int b) = some (decide (a ≤ b)) := rfl
theorem gtP_int (a b : Int) : gtP (.int a) (.int b) = some (decide (b < a)) := rfl
theorem geP_int (a b : Int) : geP (.int a) (.int b) = some (decide (b ≤ a)) := rfl
theorem modP_pos {a b : Int} (h : 0 < b) : modP (.int a) (.int b) = some (.int (a % b)) := by
  show (if b ≠ 0 then some (PyData.int (a.fmod b)) else none) = _
  rw [if_pos (by omega), Int.fmod_eq_emod_of_nonneg _ (by omega)]
theorem fdivP_pos {a b : Int} (h : 0 < b) (h2 : b < 1073741824) : fdivP (.int a) (.int b) = some (.int (a / b)) := by
  show (if b ≠ 0 ∧ b.natAbs < 1073741824 then some (PyData.int (a.fdiv b)) else none) = _
  rw [if_pos ⟨by omega, by omega⟩, Int.fdiv_eq_ediv_of_nonneg _ (by omega)]
theorem mulP_r {a b : Int} (h : -(2 ^ 64) < b ∧ b < 2 ^ 64) : mulP (.int a) (.int b) = some (.int (a * b)) := by
  show (if _ then _ else _) = _
  rw [if_pos (.inr h)]
theorem mulP_l {a b : Int} (h : -(2 ^ 64) < a ∧ a < 2 ^ 64) : mulP (.int a) (.int b) = some (.int (a * b)) := by
  show (if _ then _ else _) = _
  rw [if_pos (.inl h)]
theorem absP_int (a : Int) : (unD [.d (.int a)]).bind absP = some (.int (if a < 0 then -a else a)) := rfl
theorem intP_int (a : Int) : (unD [.d (.int a)]).bind intP = some (.int a) := rfl
theorem atI0 {α : Type} (d : α) (xs : List α) : atI (d :: xs) 0 = some d := by
  unfold atI ixN
  rw [if_pos (by omega), if_pos (by simp only [List.length_cons]; omega)]
  rfl
theorem atI_nat' {α : Type} {xs : List α} {j : Nat} {d : α} (h : xs[j]? = some d) : atI xs (j : Int) = some d := by
  have hj : j < xs.length := (List.getElem?_eq_some_iff.mp h).1
  unfold atI ixN
  rw [if_pos (by omega), if_pos (by omega)]
  exact h
end DL
set_option Elab.async false
set_option linter.all false
set_option maxRecDepth 100000
set_option maxHeartbeats 4000000
/-! DL11: defs that may raise, raise, try with a tuple told. -/
namespace DL
open PySem L2
open ZT (PT)
def SpE (K : Fg) (mg : Str → Option Value) (np : Nat) (m : List SV → Bag → Res PD) : Sp := fun vs H Q E => vs.length = np ∧ ∃ (w : Wd) (G : Hp) (B : Bag) (ss : List SV), Ok w G H B ∧ w.tb = TK K ∧ ARs K w G vs ss ∧ PostE K mg w G H (m ss B) Q E
/-- a def that may be called by its name and may raise -/
structure CalX (P : Program) (w : World) (K : Fg) (mg : Str → Option Value) (base : Heap) (k : Nat) (x : Str) (sp : Sp) : Prop where
  ex : ∃ (f : Addr) (fd : FuncData) (ps : List Str), FnOk P w K mg base (L2.CX P w) k f fd ps sp ∧ mg x = some (.ref f) ∧ PySem.W.keepIn K (.ref f) = true ∧ Binds K fd ps []
abbrev BXX (P : Program) (w : World) (K : Fg) (mg : Str → Option Value) (base : Heap) (N : List Str) (x : Str) (st : Stmt) (f : Addr) (cdv : Value) (A : Around) (outer : List Env) (s : Shared) (H : Hp) (E : XK) : Cx := cxOf (L2.CX P w) P w K mg base N x (C8.fnScope st) f cdv A outer s H E
abbrev WX1 (E : XK) : WX := fun cls d _ H => E cls d H
theorem defX_ok {P : Program} {w : World} {K : Fg} {mg : Str → Option Value} {base : Heap} {x : Str} {st : Stmt} {f : Addr} {fd : FuncData} {N ps : List Str} {k n : Nat} {m : EnvM → Bag → SRes} (F : C8.Def K mg x st f fd) (b : Binds K fd ps []) (S : FnScope N ps (C8.fnScope st)) (hn : n = ps.length)
    (hbody : ∀ (cdv : Value) (A : Around) (outer : List Env) (s : Shared) (H : Hp) (E : XK), Room k (A.deeper (PyProof.Rows.envOfC x (C8.fnScope st) s.heap.objs.size f cdv)) → ∃ t, SDs (BXX P w K mg base N x st f cdv A outer s H E) (WX1 E) (C8.fnBody st) t m) :
    CalX P w K mg base (k + 1) x (SpE K mg n (mFn N.length m)) := by
  subst hn
  refine ⟨f, fd, ps, ?_, F.mgf, F.kp, b⟩
  obtain ⟨oc, od, dV, kV, doc, pm, an, cdv, ct, osl, rfl, lk, hcd⟩ := F.fn.ex
  refine fn_of lk hcd S (fun vs H Q E h => h.1) fun A outer s H vs Q E hr h => ?_
  obtain ⟨hl, w', G, B, ss, o, wk, r, q⟩ := h
  obtain ⟨t, ht⟩ := hbody cdv A outer s H E hr
  refine ⟨t, ht.pe, ht.sem w' G H (L2.start N vs) (env0 N.length ss) G H B _ (start_rel o wk r) ?_⟩
  unfold mFn at q
  cases e : m (env0 N.length ss) B with
  | nx env' B' => rw [e] at q; exact fun σ' G' H' R' s' => q .non G' H' R'.ent R'.ok .non
  | ret d B' => rw [e] at q; exact q
  | exc c as e1 B' => rw [e] at q; exact fun σ' cls dd fs G' H' m R' _ d f => q cls dd fs G' H' m R'.ent R'.ok d f
  | bk env' B' => rw [e] at q; exact q.elim
  | ct env' B' => rw [e] at q; exact q.elim
  | bad => rw [e] at q; exact q.elim
section
variable {X : Cx} {W : WX}
def mCallE (np : Nat) (m : List SV → Bag → Res PD) (ma : EnvM → Bag → Res (List SV)) : EnvM → Bag → Res PD := fun env B => (ma env B).bind fun ss B1 => if ss.length = np then m ss B1 else .bad
/-- a call that may raise -/
theorem ed_callE (K : Fg) (mg : Str → Option Value) {k j np : Nat} {x : Str} {e : Expr} {es : List Expr} {t : TA} {m : List SV → Bag → Res PD} {ma : EnvM → Bag → Res (List SV)} {p pos : Pos} (c : CalX X.prog X.w K mg X.base k x (SpE K mg np m)) (tk : Takes X W) (hr : Room j X.A) (hk : k ≤ j) (ha : AD X W (e :: es) t ma) (hg : Gl X x := by rfl)
    (hdb : (x == ("__debug__" : Str)) = false := by decide) (he : starEach (e :: es) X.env = (false, eval e X.env) :: starEach es X.env := by rfl) (hpl : (backTo pos (starEach es X.env)).any (·.1) = false := by rfl) (hK : X.K = K := by rfl) (hM : X.mg = mg := by rfl) :
    ED X W (.Call (.Name x p) (e :: es) [] pos) (tCallS (SpE K mg np m) (WE W) t) (mCallE np m ma) := by
  subst hK hM
  obtain ⟨f, fd, ps, F, hm, kp, b⟩ := c.ex
  refine ⟨pe_callS F (hr.mono hk) hg hm kp b (fun σ => passAt tk σ) ha.pe hdb he hpl, fun w G0 H0 σ env G H B Q R h => ?_⟩
  refine ha.sem w G0 H0 σ env G H B _ R (PostR.bind h fun ss B1 vs G1 H1 s1 o1 d1 h1 => ?_)
  by_cases hl : ss.length = np
  · rw [if_pos hl] at h1
    exact ⟨by rw [d1.length]; exact hl, w, G1, B1, ss, o1, R.wk, d1, h1⟩
  · rw [if_neg hl] at h1; exact h1.elim
/-- raise X(a, ..): fs the fields by the arguments -/
def mRaise (c : Str) (fsP : List PD → Option (List (Str × PD))) (ma : EnvM → Bag → Res (List SV)) : EnvM → Bag → SRes := fun env B => (ma env B).s env fun ss B1 => match (unD ss).bind fsP with
  | some as => .exc c as env B1
  | none => .bad
/-- what the making of an own exception asks of its fields -/
def tMkX (C : Addr) (fsV : List V → Option (List (Str × V))) (ta : TA) : L2.St → Hp → XK → Prop := fun σ H Q => ta σ H fun vs H1 => ∃ fs, fsV vs = some fs ∧ ∀ d, H1 d = none → Q (.ref C) (some d) (upd H1 d (.xd fs))
theorem sd_raise {c : Str} {C : Addr} {fsP : List PD → Option (List (Str × PD))} {fsV : List V → Option (List (Str × V))} {es : List Expr} {e : Expr} {t : TA} {ma : EnvM → Bag → Res (List SV)} {pos : Pos} (hC : X.mg c = some (.ref C)) (ha : AD X W es t ma)
    (hp : PS X (.Raise (some e) none pos) (fun _ σ H => tMkX C fsV t σ H fun cls d H' => W cls d σ H'))
    (hf : ∀ (G : Hp) (vs : List V) (ds : List PD) (as : List (Str × PD)), DRs X.K G vs ds → fsP ds = some as → ∃ fs, fsV vs = some fs ∧ Fs X.K G fs as) :
    SD X W (.Raise (some e) none pos) (fun _ σ H => tMkX C fsV t σ H fun cls d H' => W cls d σ H') (mRaise c fsP ma) := by
  refine ⟨hp, fun w G0 H0 σ env G H B D R h => ?_⟩
  refine ha.sem w G0 H0 σ env G H B _ R (PostS.bind R (Sub.refl _) h fun ss B1 vs G1 H1 s1 o1 d1 h1 => ?_)
  cases e1 : unD ss with
  | none => simp only [e1] at h1; exact h1.elim
  | some ds =>
    simp only [e1] at h1
    have h1 : PostS X.K X.mg w G0 H0 G W D (match fsP ds with | some as => .exc c as env B1 | none => .bad) := h1
    cases e2 : fsP ds with
    | none => rw [e2] at h1; exact h1.elim
    | some as =>
      rw [e2] at h1
      obtain ⟨fs, q1, q2⟩ := hf G1 vs ds as (d1.un e1) e2
      refine ⟨fs, q1, fun d hd => ?_⟩
      have s2 : Step w G1 H1 G1 (upd H1 d (.xd fs)) := Step.newH hd
      exact h1 σ (.ref C) d fs G1 _ hC ((R.step s1 o1).step s2 (o1.newH hd)) s1.exG upd_same q2
/-! ### try: .. except X as e: return (.., e.f, ..) -/
theorem Fs.get {K : Fg} {G : Hp} : ∀ {fs : List (Str × V)} {as : List (Str × PD)} {f : Str} {d : PD}, Fs K G fs as → as.lookup f = some d → ∃ v, fs.lookup f = some v ∧ DR K G v d
  | _, _, _, _, .nil, h => by cases h
  | _, _, f, d, .cons (f := g) (v := v) hd r, h => by
    by_cases e : (f == g) = true
    · simp only [List.lookup, e] at h ⊢
      cases h
      exact ⟨v, rfl, hd⟩
    · have e : (f == g) = false := by simpa using e
      simp only [List.lookup, e] at h ⊢
      exact Fs.get r h
/-- a name, the number of slots known -/
def tVarL (n i : Nat) : TE := fun σ H Q => σ.length = n → tVar i σ H Q
theorem pe_varL {i : Nat} {x : Str} {pos : Pos} (hN : X.N[i]? = some x) (hv : Vis X.env.scope x) (hd : (x == ("__debug__" : Str)) = false := by decide)
    (hcd : (x == ("__classdict__" : Str)) = false := by decide) : PE X (.Name x pos) (tVarL X.N.length i) :=
  ⟨fun pins s σ H Q I h => (pe_var hN hv hd hcd).run pins s σ H Q I (h I.len)⟩
/-- the items of what the handler tells -/
structure HD (X : Cx) (i : Nat) (C : Addr) (es : List Expr) (t : Addr → Value → Option Addr → TA) (m : List (Str × PD) → Option (List PD)) : Prop where
  pe : ∀ (a : Addr) (oe : Obj) (cls : Value) (d : Option Addr) (pn : List (Addr × Obj)), Zc cls d oe → (∃ vs, oe.data = .fields vs) → PA (X.suite a ((a, oe) :: pn)) es (t a cls d)
  sem : ∀ (a dd : Addr) (fs : List (Str × V)) (as : List (Str × PD)) (ds : List PD) (σ : L2.St) (G H : Hp) (Q : List V → Hp → Prop), (σ.length = X.N.length → σ[i]? = some (some (.ref a))) → H dd = some (.xd fs) → Fs X.K G fs as → m as = some ds → (∀ vs, DRs X.K G vs ds → Q vs H) → t a (.ref C) (some dd) σ H Q
theorem hd_nil {i : Nat} {C : Addr} : HD X i C [] (fun _ _ _ => tNil) (fun _ => some []) := ⟨fun _ _ _ _ _ _ _ => pa_nil, fun a dd fs as ds σ G H Q _ _ _ e k => by cases e; exact k [] .nil⟩
theorem hd_str {i : Nat} {C : Addr} {x : Str} {j : Nat} {p : Pos} {es : List Expr} {t : Addr → Value → Option Addr → TA} {m : List (Str × PD) → Option (List PD)} (h : HD X i C es t m) (hs : ∀ (a : Addr) (pn : List (Addr × Obj)), starEach (.Constant (.str x) j p :: es) (X.suite a pn).env = (false, eval (.Constant (.str x) j p) (X.suite a pn).env) :: starEach es (X.suite a pn).env := by exact fun _ _ => rfl) :
    HD X i C (.Constant (.str x) j p :: es) (fun a cls d => tCons (tC (.str x)) (t a cls d)) (fun as => (m as).map fun ds => .str x :: ds) := by
  refine ⟨fun a oe cls d pn hz hf => pa_cons pe_str (h.pe a oe cls d pn hz hf) (hs a _), fun a dd fs as ds σ G H Q h1 h2 h3 e k => ?_⟩
  cases q : m as with
  | none => rw [q] at e; cases e
  | some ds' =>
    rw [q] at e
    cases e
    exact h.sem a dd fs as ds' σ G H _ h1 h2 h3 q fun vs r => k _ (.cons (.str x) r)
/-- e.f, e the exception that the suite holds -/
def tBy (C : Addr) (f : Str) (a : Addr) (cls : Value) (d : Option Addr) (te : TE) : TE := fun σ H Q => te σ H fun x H1 => x = .ref a ∧ cls = .ref C ∧ ∃ (dd : Addr) (fs : List (Str × V)) (v : V), d = some dd ∧ H1 dd = some (.xd fs) ∧ fs.lookup f = some v ∧ Q v H1
theorem pe_by {f : Str} {a C : Addr} {oe : Obj} {cls : Value} {d : Option Addr} {pn : List (Addr × Obj)} {e : Expr} {te : TE} {pos : Pos} (hga : PySem.W.findIn X.K (.ref C) "__getattribute__" = some (some (.builtin "BaseException.__getattribute__"))) (hgg : PySem.W.findIn X.K (.ref C) "__getattr__" = some none)
    (hex : PySem.W.subIn X.K (.ref C) (.type "BaseException") = some true) (hdC : PySem.W.hasDictIn X.K C = true) (hno : PySem.W.findIn X.K (.ref C) f = some none) (hz : Zc cls d oe) (hf : ∃ vs, oe.data = .fields vs) (he : PE (X.suite a ((a, oe) :: pn)) e te)
    (hb : attributeBase e f X.env (eval e X.env) = eval e X.env) :
    PE (X.suite a ((a, oe) :: pn)) (.Attribute e f pos) (tBy C f a cls d te) := by
  refine ⟨fun pins s σ H Q I h => ?_⟩
  refine attr_of hb (thn (he.run pins s σ H _ I h) fun u s1 hh => ?_)
  obtain ⟨x, H1, I1, rx, ex, ec, dd, fs, v, ed, ea, el, q⟩ := hh
  subst ex
  obtain rfl : u = Value.ref a := rx
  subst ec
  subst ed
  obtain ⟨ha, _⟩ := I1.pin (a, oe) (List.mem_append_left _ List.mem_cons_self)
  obtain ⟨vs, hd⟩ := hf
  have hx : ObjOk X.prog X.w H1 s1.heap dd (.xd fs) := I1.hok dd _ ea
  obtain ⟨mA, hns, hr⟩ := hx
  obtain ⟨od, ho, hl⟩ := lookIn_ns hns
  obtain ⟨u, hu, ru⟩ := RelO.some_of (v := v) (o := mA f) (by rw [← el]; exact hr f)
  have J : PySem.W.InstAt s1.heap a oe C (some od) := ⟨ha, hz.1, by unfold PySem.W.notCls; rw [hd] <;> rfl, by rw [hz.2]; exact ho⟩
  exact HandSPX.exc_get I1.kIn J hga hgg hex (PySem.W.findObj_own hdC hno rfl (by rw [hl, hu])) (handed_of ru) ⟨v, H1, I1.tok _, ru, q⟩
theorem hd_by {i : Nat} {C : Addr} {f n : Str} {p p2 : Pos} {es : List Expr} {t : Addr → Value → Option Addr → TA} {m : List (Str × PD) → Option (List PD)} (hga : PySem.W.findIn X.K (.ref C) "__getattribute__" = some (some (.builtin "BaseException.__getattribute__"))) (hgg : PySem.W.findIn X.K (.ref C) "__getattr__" = some none)
    (hex : PySem.W.subIn X.K (.ref C) (.type "BaseException") = some true) (hdC : PySem.W.hasDictIn X.K C = true) (hno : PySem.W.findIn X.K (.ref C) f = some none) (h : HD X i C es t m) (hN : X.N[i]? = some n := by rfl) (hv : Vis X.env.scope n := by first | exact Or.inl rfl | exact Or.inr (Or.inl rfl) | exact Or.inr (Or.inr rfl))
    (hd : (n == ("__debug__" : Str)) = false := by decide) (hcd : (n == ("__classdict__" : Str)) = false := by decide) (hb : attributeBase (.Name n p) f X.env (eval (.Name n p) X.env) = eval (.Name n p) X.env := by rfl)
    (hs : starEach (.Attribute (.Name n p) f p2 :: es) X.env = (false, eval (.Attribute (.Name n p) f p2) X.env) :: starEach es X.env := by rfl) :
    HD X i C (.Attribute (.Name n p) f p2 :: es) (fun a cls d => tCons (tBy C f a cls d (tVarL X.N.length i)) (t a cls d)) (fun as => match as.lookup f with
      | some d => (m as).map fun ds => d :: ds
      | none => none) := by
  refine ⟨fun a oe cls d pn hz hf => pa_cons (pe_by hga hgg hex hdC hno hz hf (pe_varL (X := X.suite a ((a, oe) :: pn)) hN hv hd hcd) hb) (h.pe a oe cls d pn hz hf) hs, fun a dd fs as ds σ G H Q h1 h2 h3 e k => ?_⟩
  cases q0 : as.lookup f with
  | none => simp only [q0] at e; cases e
  | some d0 =>
    simp only [q0] at e
    cases q : m as with
    | none => rw [q] at e; cases e
    | some ds' =>
      rw [q] at e
      cases e
      obtain ⟨v, e1, e2⟩ := h3.get q0
      exact fun hl => ⟨_, h1 hl, rfl, rfl, dd, fs, v, rfl, h2, e1, h.sem a dd fs as ds' σ G H _ h1 h2 h3 q fun vs r => k _ (.cons e2 r)⟩
/-- try: body; except X as n: return (items) -/
def mTryRet (i : Nat) (c : Str) (mb : EnvM → Bag → SRes) (mh : List (Str × PD) → Option (List PD)) : EnvM → Bag → SRes := fun env B => match mb env B with
  | .exc c' as e1 B1 => if c' = c ∧ i < e1.length then (match mh as with
    | some ds => if ds.length ≤ sizeLine then .ret (.tuple ds) B1 else .bad
    | none => .bad) else .bad
  | r => r
theorem sd_tryRet (i : Nat) {c n : Str} {C : Addr} {body : List Stmt} {es : List Expr} {tb : WX → TS} {th : Addr → Value → Option Addr → TA} {mb : EnvM → Bag → SRes} {mh : List (Str × PD) → Option (List PD)} {np pos pos' p1 p2 : Pos} {kt} (hs : X.stack = X.env :: X.outer) (hf : X.env.frame = some X.env.locals) (hN : X.N.Nodup) (hC : X.mg c = some (.ref C)) (hte : PySem.W.exmOne X.K (.ref C) (.ref C) = some true) (tk : Takes X W)
    (hb : ∀ (W' : WX) (pn : List (Addr × Obj)) (xe : Value → Shared → Prop), Takes (X.tr pn xe) W' → SDs (X.tr pn xe) W' body (tb W') mb) (hh : HD X i C es th mh)
    (hi : X.N[i]? = some n := by rfl) (hln : X.env.kindOf n = some .local := by rfl) (hg : Gl X c := by rfl) (hdb : (c == ("__debug__" : Str)) = false := by decide) :
    SD X W (.Try body [.ExceptHandler (some (.Name c np)) (some n) [.Return (some (.Tuple es kt p1)) p2] pos'] [] [] pos) (fun D σ H => tb (wAs X.K (.ref C) i (fun a cls d => tRet (ZT.tTupP (th a cls d))) W D) D σ H) (mTryRet i c mb mh) := by
  refine ⟨ps_try_as hs hf hN hi hln ⟨hg, hdb, .inl hC⟩ tk (fun W' pn xe t _ => (hb W' pn xe t).pe) (fun a oe cls d pn hz hfl => pss_one (ps_ret (ZT.pe_tupP (hh.pe a oe cls d pn hz hfl)))), fun w G0 H0 σ env G H B D R h => ?_⟩
  refine (hb (wAs X.K (.ref C) i (fun a cls d => tRet (ZT.tTupP (th a cls d))) W D) [] (fun _ _ => True) (fun _ _ _ => trivial)).sem w G0 H0 σ env G H B D R ?_
  unfold mTryRet at h
  cases e : mb env B with
  | nx env' B' => rw [e] at h; exact h
  | bk env' B' => rw [e] at h; exact h
  | ct env' B' => rw [e] at h; exact h
  | ret d B' => rw [e] at h; exact h
  | bad => rw [e] at h; exact h.elim
  | exc c' as e1 B1 =>
    rw [e] at h
    have h : PostS X.K X.mg w G0 H0 G W D (if c' = c ∧ i < e1.length then (match mh as with | some ds => if ds.length ≤ sizeLine then .ret (.tuple ds) B1 else .bad | none => .bad) else .bad) := h
    by_cases hc : c' = c ∧ i < e1.length
    · rw [if_pos hc] at h
      obtain ⟨hcc, hlt⟩ := hc
      cases em : mh as with
      | none => rw [em] at h; exact h.elim
      | some ds =>
        rw [em] at h
        have h : PostS X.K X.mg w G0 H0 G W D (if ds.length ≤ sizeLine then .ret (.tuple ds) B1 else .bad) := h
        by_cases hl : ds.length ≤ sizeLine
        · rw [if_pos hl] at h
          intro σ' cls dd fs G' H' m R' _ hd hfs
          rw [hcc] at m
          have ec : cls = .ref C := Option.some.inj (m.symm.trans hC)
          subst ec
          refine ⟨true, hte, fun _ a ha => ?_, fun z => Bool.noConfusion z⟩
          refine hh.sem a dd fs as ds _ G' H' _ (fun _ => List.getElem?_set_self (by rw [← R'.len]; exact hlt)) hd hfs em fun vs r => ⟨by rw [r.length]; exact hl, fun p ob hp hob => ?_⟩
          exact h _ _ _ (R'.ent.trans (Step.new R'.ok.sub hp)) (R'.ok.new hp) (.tup (PT.new hob) (r.mono (sub_upd (R'.ok.free hp))))
        · rw [if_neg hl] at h; exact h.elim
    · rw [if_neg hc] at h; exact h.elim
end
end DL
set_option Elab.async false
set_option linter.all false
set_option maxRecDepth 100000
set_option maxHeartbeats 2000000
/-! DL21: a lambda without parameters handed to a def that tells what comes of it. -/
namespace DL
open PySem L2
open ZT (PT)
abbrev Deed := Bag → Res PD
def TDeed (K : Fg) (mg : Str → Option Value) (mF : Deed → Bag → Res PD) : (XK → Hp → VK → Prop) → Hp → VK → Prop := fun tl H Q =>
  ∃ (w : Wd) (G : Hp) (B : Bag) (r : Deed), Ok w G H B ∧
    (∀ (E : XK) (G' H' : Hp) (B' : Bag) (Q' : VK), B' = B → Step w G H G' H' → Ok w G' H' B' → PostE K mg w G' H' (r B') Q' E → tl E H' Q') ∧
    PostE K mg w G H (mF r B) Q (fun _ _ _ => False)
/-- try: return (tg, act()); except c as n: return (items) -/
def mTold (tg c : Str) (mh : List (Str × PD) → Option (List PD)) : Deed → Bag → Res PD := fun r B => match r B with
  | .ok d B1 => .ok (.tuple [.str tg, d]) B1
  | .exc c' as B1 => if c' = c then (match mh as with
    | some ds => if ds.length ≤ sizeLine then .ok (.tuple ds) B1 else .bad
    | none => .bad) else .bad
  | .bad => .bad
abbrev ToldX (X : Cx) (Ng : List Str) (x : Str) (sg : Scope) (g : Addr) (cdg : Value) (s : Shared) (H : Hp) : Cx := (cxOf C8.CX0 X.prog X.w X.K X.mg X.base Ng x sg g cdg X.A X.stack s H C8.E0).nox
theorem gives_told (K : Fg) (mg : Str → Option Value) {X : Cx} {Ng : List Str} {x a n q tg c : Str} {sg : Scope} {g C : Addr} {cdg : Value} {i j kt kt2 : Nat} {es : List Expr} {th : Addr → Value → Option Addr → TA} {mh : List (Str × PD) → Option (List PD)} {p1 p2 p3 p4 p5 p6 p7 p8 p9 p10 p11 : Pos}
    (hh : ∀ (s : Shared) (H : Hp), HD (ToldX X Ng x sg g cdg s H) i C es th mh) (hN : Ng.Nodup) (hil : i < Ng.length) (hC : mg c = some (.ref C)) (hte : PySem.W.exmOne K (.ref C) (.ref C) = some true) (h0 : ∀ f : Addr, (L2.start Ng [V.ref f])[0]? = some (some (V.ref f)))
    (hse : ∀ (s : Shared) (H : Hp) (pn : List (Addr × Obj)) (xe : Value → Shared → Prop), starEach [.Constant (.str tg) j p1, .Call (.Name a p2) [] [] p3] ((ToldX X Ng x sg g cdg s H).tr pn xe).env = (false, eval (.Constant (.str tg) j p1) ((ToldX X Ng x sg g cdg s H).tr pn xe).env) :: starEach [.Call (.Name a p2) [] [] p3] ((ToldX X Ng x sg g cdg s H).tr pn xe).env := by exact fun _ _ _ _ => rfl)
    (hse2 : ∀ (s : Shared) (H : Hp) (pn : List (Addr × Obj)) (xe : Value → Shared → Prop), starEach [.Call (.Name a p2) [] [] p3] ((ToldX X Ng x sg g cdg s H).tr pn xe).env = (false, eval (.Call (.Name a p2) [] [] p3) ((ToldX X Ng x sg g cdg s H).tr pn xe).env) :: starEach [] ((ToldX X Ng x sg g cdg s H).tr pn xe).env := by exact fun _ _ _ _ => rfl)
    (hi : Ng[i]? = some n := by rfl) (hln : ∀ (s : Shared) (H : Hp), (ToldX X Ng x sg g cdg s H).env.kindOf n = some .local := by exact fun _ _ => rfl) (hg : ∀ (s : Shared) (H : Hp), Gl (ToldX X Ng x sg g cdg s H) c := by exact fun _ _ => rfl) (hdb : (c == ("__debug__" : Str)) = false := by decide)
    (hK : X.K = K := by rfl) (hM : X.mg = mg := by rfl) :
    LamX.GivesTo X Ng x sg g cdg [.Try [.Return (some (.Tuple [.Constant (.str tg) j p1, .Call (.Name a p2) [] [] p3] kt p4)) p5] [.ExceptHandler (some (.Name c p6)) (some n) [.Return (some (.Tuple es kt2 p7)) p8] p9] [] [] p10] a q (TDeed K mg (mTold tg c mh)) := by
  subst hK hM
  intro f c' s H Q tl act hc h
  obtain ⟨w, G, B, r, o, hr, hp⟩ := h
  refine ⟨_, pss_one (ps_try_as (X := ToldX X Ng x sg g cdg s H) (i := i)
      (tb := fun W D σ H => ∃ Ech : XK, (∀ cls d σ' H', Ech cls d H' → W cls d σ' H') ∧ σ[0]? = some (some (.ref f)) ∧ H c' = some (LamX.CodeO c' q) ∧ tl Ech H fun v H1 => [V.str tg, v].length ≤ sizeLine ∧ ZT.Mk D.rt [.str tg, v] H1)
      rfl rfl hN hi (hln s H) ⟨hg s H, hdb, .inl hC⟩ LamX.takes0 (fun W pn xe tk _ => ?_) (fun a oe cls d pn hz hfl => pss_one (ps_ret (ZT.pe_tupP ((hh s H).pe a oe cls d pn hz hfl))))), ?_⟩
  · refine ⟨fun pins s' σ H' D I h' => ?_⟩
    obtain ⟨Ech, hW, h1, h2, h3⟩ := h'
    have hp := act W pn xe Ech p2 p3 tk hW
    have hq := pss_one (ps_ret (pos := p5) (ZT.pe_tupP (pos := p4) (x1 := kt) (pa_cons (pe_str (x := tg) (j := j) (pos := p1)) (pa_cons hp pa_nil (hse2 s H pn xe)) (hse s H pn xe))))
    exact hq.run pins s' σ H' D I ⟨h1, h2, h3⟩
  · refine ⟨fun cls d H' => ∀ σ', wAs X.K (.ref C) i (fun a cls d => tRet (ZT.tTupP (th a cls d))) (fun _ _ _ _ => False) { nx := fun _ H' => Q .non H', rt := Q } cls d σ' H', fun cls d σ' H' z => z σ', h0 f, hc, hr _ G H B _ rfl Step.refl o ?_⟩
    unfold mTold at hp
    cases e : r B with
    | bad => rw [e] at hp; exact hp.elim
    | ok d B1 =>
      rw [e] at hp
      intro v G' H' s1 o1 d1
      refine ⟨by show 2 ≤ sizeLine; decide, fun p ob hp' hd => hp (.ref p) _ _ (s1.trans (Step.new o1.sub hp')) (o1.new hp') (.tup (PT.new hd) (.cons (.str tg) (.cons (d1.mono (sub_upd (o1.free hp'))) .nil)))⟩
    | exc c2 as B1 =>
      rw [e] at hp
      have hp : PostE X.K X.mg w G H (if c2 = c then (match mh as with | some ds => if ds.length ≤ sizeLine then .ok (.tuple ds) B1 else .bad | none => .bad) else .bad) Q (fun _ _ _ => False) := hp
      by_cases hcc : c2 = c
      · rw [if_pos hcc] at hp
        cases em : mh as with
        | none => rw [em] at hp; exact hp.elim
        | some ds =>
          rw [em] at hp
          have hp : PostE X.K X.mg w G H (if ds.length ≤ sizeLine then .ok (.tuple ds) B1 else .bad) Q (fun _ _ _ => False) := hp
          by_cases hl : ds.length ≤ sizeLine
          · rw [if_pos hl] at hp
            intro cls dd fs G' H' m s1 o1 hd hfs σ'
            rw [hcc] at m
            have ec : cls = .ref C := Option.some.inj (m.symm.trans hC)
            subst ec
            refine ⟨true, hte, fun _ a ha => ?_, fun z => Bool.noConfusion z⟩
            refine (hh s H).sem a dd fs as ds _ G' H' _ (fun hlen => List.getElem?_set_self (by rw [List.length_set] at hlen; rw [hlen]; exact hil)) hd hfs em fun vs rr => ⟨by rw [rr.length]; exact hl, fun p ob hp' hob => ?_⟩
            exact hp (.ref p) _ _ (s1.trans (Step.new o1.sub hp')) (o1.new hp') (.tup (PT.new hob) (rr.mono (sub_upd (o1.free hp'))))
          · rw [if_neg hl] at hp; exact hp.elim
      · rw [if_neg hcc] at hp; exact hp.elim
/-- F(lambda: body) -/
def mLam (mF : Deed → Bag → Res PD) (m : EnvM → Bag → Res PD) : EnvM → Bag → Res PD := fun env B => match mF (m env) B with
  | .ok d B2 => .ok d B2
  | _ => .bad
theorem takes_lam {X : Cx} {A : Around} {outer : List Env} {s : Shared} {H : Hp} {E : XK} {scope : Scope} {f c' : Addr} : Takes (LamX.lamCx X A outer s H E scope f c') (WX1 E) := takes_of rfl rfl rfl rfl
/-- what the making of a lambda asks of the def X -/
structure LamOK (X : Cx) (c P : Addr) : Prop where
  TB : LamX.TabB X.base X.mg c P
  code : X.env.code = .ref c
  mem : (P, X.env.qual ++ "<lambda>") ∈ TK X.K
  uni : ∀ p ∈ TK X.K, p.1 = P → p.2 = X.env.qual ++ "<lambda>"
theorem ed_lam (K : Fg) (mg : Str → Option Value) {X : Cx} {W : WX} {mF : Deed → Bag → Res PD} {x a : Str} {g c P : Addr} {k : Nat} {st : Stmt} {fd : FuncData} {Ng : List Str} {params : Arguments} {body : Expr} {scope : Scope} {t : XK → TE} {m : EnvM → Bag → Res PD} {p lpos pos : Pos}
    (F : C8.Def K mg x st g fd) (b : Binds K fd [a] []) (Sg : FnScope Ng [a] (C8.fnScope st)) (hG : ∀ cdv, LamX.GivesTo X Ng x (C8.fnScope st) g cdv (C8.fnBody st) a (X.env.qual ++ "<lambda>") (TDeed K mg mF)) (L : LamOK X c P) (hr : Room (k + 2) X.A)
    (LS : LamX.LamS X.env.scope scope) (hbody : ∀ (A : Around) (outer : List Env) (s : Shared) (H : Hp) (E : XK) (f c' : Addr), Room k (A.deeper (LamX.lamEnv X scope s.heap.objs.size f c')) → ED (LamX.lamCx X A outer s H E scope f c') (WX1 E) body (t E) m)
    (hNg : Ng[0]? = some a := by rfl) (hva : Vis (C8.fnScope st) a := by first | exact Or.inl rfl | exact Or.inr (Or.inl rfl) | exact Or.inr (Or.inr rfl)) (hg : Gl X x := by rfl) (hdef : defaultsOf params X.env = ([], []) := by rfl)
    (hbind : ∀ (q : Str) (cl : List (Str × Addr)) (pm cv ctv : Value), bindArgs (PySem.W.kla_fn "<lambda>" q params body scope cl pm cv ctv) ⟨[], []⟩ = pure [] := by exact fun _ _ _ _ _ => rfl)
    (hdb : (x == ("__debug__" : Str)) = false := by decide) (hd : (a == ("__debug__" : Str)) = false := by decide) (hcd : (a == ("__classdict__" : Str)) = false := by decide) (hK : X.K = K := by rfl) (hM : X.mg = mg := by rfl) :
    ED X W (.Call (.Name x p) [.Lambda params body scope lpos] [] pos) (LamX.tLam (TK K) (TDeed K mg mF) t) (mLam mF m) := by
  subst hK hM
  obtain ⟨oc, od, dV, kV, doc, pm, an, cdv, ct, osl, rfl, lk, hcd'⟩ := F.fn.ex
  refine ⟨LamX.pe_lamcall hg F.mgf F.kp lk hcd' b Sg hNg hva (hG cdv) L.TB L.code L.mem L.uni hr LS hdef hbind (fun A outer s H E f c' hr2 => (hbody A outer s H E f c' hr2).pe) hdb hd hcd, fun w G0 H0 σ env G H B Q R h => ?_⟩
  refine ⟨by rw [← R.wk]; exact R.ok.tabs, fun H1 eN hT => ?_⟩
  have hs : Step w G H G H1 := ⟨fun _ _ z => z, fun _ _ z => .inl z, fun a o _ n z => eN a o z n, fun a o n z => ⟨o, n, eN a o z n⟩⟩
  have ho : Ok w G H1 B := by
    refine ⟨fun a o z => eN a o (R.ok.sub a o z) fun ps e => R.ok.gt a ps (by rw [← e]; exact z), fun b l e => ?_, R.ok.gb, by rw [R.wk]; exact hT, R.ok.gt, R.ok.gl⟩
    obtain ⟨b1, b2, b3⟩ := R.ok.bag b l e
    exact ⟨eN _ _ b1 (fun _ z => by cases z), b2, eN _ _ b3 (fun _ z => by cases z)⟩
  refine ⟨w, G, B, m env, ho, fun E G' H' B' Q' eB s1 o1 hp => ?_, PostR.step hs ?_⟩
  · subst eB
    exact (hbody (X.A.deeper X.env) X.outer X.s_0 H E 0 0 ((hr.deeper _).deeper _)).sem w G0 H0 σ env G' H' B' Q' (R.step (hs.trans s1) o1) hp
  · unfold mLam at h
    cases e : mF (m env) B with
    | ok d B2 => rw [e] at h; exact h
    | exc c as B2 => rw [e] at h; exact h.elim
    | bad => rw [e] at h; exact h.elim
end DL
set_option Elab.async false
set_option linter.all false
set_option maxRecDepth 100000
set_option maxHeartbeats 2000000
/-! DL22: the law's frame where lambdas are made. -/
namespace DL
open PySem L2 C8
/-- what is known of a def x that makes lambdas -/
structure LamK (K : Fg) (mg : Str → Option Value) (base : Heap) (fd : FuncData) (x : Str) (c P : Addr) : Prop where
  code : fd.code = .ref c
  TB : LamX.TabB base mg c P
  mem : (P, lamQ x) ∈ TK K
  uni : ∀ p ∈ TK K, p.1 = P → p.2 = lamQ x
theorem LamK.ok {K : Fg} {mg : Str → Option Value} {base : Heap} {fd : FuncData} {x : Str} {c P : Addr} (L : LamK K mg base fd x c P) {X : Cx} {cdv : Value} (hcd : fd.code = cdv) (hb : X.base = base) (hK : X.K = K) (hM : X.mg = mg) (hq : X.env.qual ++ "<lambda>" = lamQ x) (hc : X.env.code = cdv) : LamOK X c P := by
  subst hb hK hM
  exact ⟨L.TB, by rw [hc, ← hcd]; exact L.code, by rw [hq]; exact L.mem, by rw [hq]; exact L.uni⟩
theorem fn0C {P : Program} {w : World} {K : Fg} {mg : Str → Option Value} {base : Heap} {x qual : Str} {st : Stmt} {f : Addr} {fd : FuncData} {N ps : List Str} {k : Nat} {sp : Sp} (F : C8.Fun K x qual st f fd) (S : FnScope N ps (C8.fnScope st)) (len : ∀ vs H Q E, sp vs H Q E → vs.length = ps.length)
    (hbody : ∀ (cdv : Value), fd.code = cdv → ∀ (A : Around) (outer : List Env) (s : Shared) (H : Hp) (vs : List V) (Q : VK) (E : XK), Room k (A.deeper (PyProof.Rows.envOfC qual (C8.fnScope st) s.heap.objs.size f cdv)) → sp vs H Q E →
      ∃ t, PSs (cxOf C8.CX0 P w K mg base N qual (C8.fnScope st) f cdv A outer s H E).nox (C8.fnBody st) t ∧ t { nx := fun _ H' => Q .non H', rt := Q } (L2.start N vs) H) : FnOk P w K mg base C8.CX0 (k + 1) f fd ps sp := by
  obtain ⟨oc, od, dV, kV, doc, pm, an, cdv, ct, osl, rfl, lk, hcd⟩ := F.ex
  refine fn_of lk hcd S len fun A outer s H vs Q E hr hsp => ?_
  obtain ⟨t, h, q⟩ := hbody cdv rfl A outer s H vs Q E hr hsp
  exact ⟨t, h.nox, q⟩
theorem def_okC {P : Program} {w : World} {K : Fg} {mg : Str → Option Value} {base : Heap} {x : Str} {st : Stmt} {f : Addr} {fd : FuncData} {N ps : List Str} {k n : Nat} {m : EnvM → Bag → SRes} (F : C8.Def K mg x st f fd) (b : Binds K fd ps []) (S : FnScope N ps (C8.fnScope st)) (hn : n = ps.length)
    (hbody : ∀ (cdv : Value), fd.code = cdv → ∀ (A : Around) (outer : List Env) (s : Shared) (H : Hp) (E : XK), Room k (A.deeper (PyProof.Rows.envOfC x (C8.fnScope st) s.heap.objs.size f cdv)) → ∃ t, SDs (BX P w K mg base N x st f cdv A outer s H E) W0 (C8.fnBody st) t m) :
    Cal P w K mg base (k + 1) x (SpF K mg n (mFn N.length m)) [] := by
  subst hn
  refine ⟨f, fd, ps, [], fn0C F.fn S (fun vs H Q E h => h.1) fun cdv hcd A outer s H vs Q E hr h => ?_, F.mgf, F.kp, b, .nil⟩
  obtain ⟨hl, w, G, B, ss, o, wk, r, q⟩ := h
  obtain ⟨t, ht⟩ := hbody cdv hcd A outer s H E hr
  refine ⟨t, ht.pe, ht.sem w G H (L2.start N vs) (env0 N.length ss) G H B _ (start_rel o wk r) ?_⟩
  unfold mFn at q
  cases e : m (env0 N.length ss) B with
  | nx env' B' => rw [e] at q; exact fun σ' G' H' R' s' => q .non G' H' R'.ent R'.ok .non
  | ret d B' => rw [e] at q; exact q
  | exc c as e1 B' => rw [e] at q; exact fun σ' cls dd fs G' H' m R' _ d f => q cls dd fs G' H' m R'.ent R'.ok d f
  | bk env' B' => rw [e] at q; exact q.elim
  | ct env' B' => rw [e] at q; exact q.elim
  | bad => rw [e] at q; exact q.elim
/-- the law's promise, the tables empty -/
def spLawT (K : Fg) : Sp := fun vs H Q _ => ∃ (a : Addr) (ns : List Int), vs = [.ref a] ∧ SqL K H a (ns.map V.int) ∧ ns.length ≤ 63 ∧ (∀ p ∈ TK K, H p.1 = some (.tbl #[])) ∧ ∀ H', Q (.bl true) H'
theorem tabs0 {K : Fg} {H : Hp} (h : ∀ p ∈ TK K, H p.1 = some (.tbl #[])) : LamX.Tabs (TK K) H := fun p hp => LamX.TabS.nil (h p hp)
theorem tab_by {K : Fg} {x : Str} {f c P : Addr} {e1 e2 : Value} {d1 d2 : Option Addr} {fd : FuncData} {s1 s2 : Array (Option Value)} {vs : Array Value} (h1 : PySem.W.nsIn K mainGlobals x = some (some (.ref f))) (h2 : K.lookup f = some ⟨e1, d1, .func fd, s1⟩) (h3 : fd.code = .ref c) (h4 : K.lookup c = some ⟨e2, d2, .fields vs, s2⟩) (h5 : vs[11]? = some (.ref P)) :
    PySem.W.tabIn K x = some (c, P) := by
  unfold PySem.W.tabIn
  simp only [h1, h2, h3, h4, h5]
theorem tab_no {K : Fg} {x : Str} (h1 : PySem.W.nsIn K mainGlobals x = some none) : PySem.W.tabIn K x = none := by
  unfold PySem.W.tabIn
  simp only [h1]
theorem exm_me {K : Fg} {S : Addr} (h1 : PySem.W.subIn K (.ref S) (.type "BaseException") = some true) (h2 : PySem.W.isClsIn K S = true) (h3 : PySem.W.typeIn K (.ref S) = some (.type "type")) (h4 : PySem.W.subIn K (.ref S) (.ref S) = some true) : PySem.W.exmOne K (.ref S) (.ref S) = some true := by
  have z : (PySem.W.clsIn K S).isSome = true := h2
  unfold PySem.W.exmOne PySem.W.kitCls
  simp [h1, z, h3, h4]
theorem walkT {l : PySem.W.OpenLaw} {q : Program} {loose : List Str} {XP : (Str → Option Value) → Heap → Prop} {YP : World → Heap → Prop} {d : DefRec} {K : Params → PySem.W.Frag} {k : Nat} (hn : l.most = some 63) (hdf : d.params.defaults = []) (hr : Room k callerA)
    (hY : ∀ (w : World) (h : Heap), YP w h → (K w.params).In h)
    (F : ∀ (w : World) (mg : Str → Option Value) (fa : Addr) (h : Heap), (K w.params).In h → h.Ns mainGlobals mg → mg d.name = some (.ref fa) →
      (∀ (x : Str) (c P : Addr), ((PyProof.Rows.recsOf q).find? fun e => e.name == x).isSome = true → PySem.W.tabIn (K w.params) x = some (c, P) → PySem.W.CodeHd h c P ∧ h.get? P = some { cls := .none, data := .fields #[] }) →
      LamX.LawAtS l w (K w.params) C8.CX0 k 63 "script" mg fa h) :
    PySem.W.WalkO q loose XP YP l.row.toRowW d [] (fun f vs => PySem.call f vs) := by
  refine Att.attach_callB hn hdf fun w s₀ s₁ mg mb fa o pm cd doc a vs ns G Y ho hd hcd hmg hobj hints hlen hbits hg => ?_
  have KX := hY w _ Y
  obtain ⟨fd, cs, sp, hT, nT, C, hb, hsp, hF⟩ := F w mg fa _ KX G.T.g hmg fun x c P hrx e => by
    cases hf : (PyProof.Rows.recsOf q).find? fun e => e.name == x with
    | none => rw [hf] at hrx; cases hrx
    | some dr => exact PySem.W.tab_of G.T KX hf e
  exact LamX.law_callTs KX G.T.g G.T.b G.T.builtins G.T.nolimit hg hT nT C G.T.bmain hobj hints (Nat.le_trans hlen (by decide)) hr hF hb (fun H hH hS => hsp H a ns hlen hbits hH hS) fun H e s' z => z
end DL
set_option Elab.async false
set_option linter.all false
set_option maxRecDepth 100000
set_option maxHeartbeats 4000000
/-! DL12: dicts of one's own: made, filled, asked. -/
namespace DL
open PySem L2
open ZT (PT)
theorem keyP_keyD (k : Key) : keyP (keyD k) = some k := by cases k <;> rfl
def hasP (ds : List (PD × PD)) (k : Key) : Bool := ds.any fun e => decide (keyP e.1 = some k)
def putP (ds : List (PD × PD)) (k : Key) (d : PD) : List (PD × PD) := if hasP ds k = true then ds.map (fun e => if keyP e.1 = some k then (e.1, d) else e) else ds ++ [(keyD k, d)]
theorem DKs.has {K : Fg} {G : Hp} (k : Key) : ∀ {kvs : List (Key × V)} {ds : List (PD × PD)}, DKs K G kvs ds → (kvs.any fun kv => decide (kv.1 = k)) = hasP ds k
  | _, _, .nil => rfl
  | _, _, .cons (k := j) (v := v) (kvs := kvs) (d := d) (ds := ds) h r => by
    have ih := DKs.has k r
    show (decide (j = k) || kvs.any _) = (decide (keyP (keyD j) = some k) || hasP ds k)
    rw [ih, keyP_keyD]
    congr 1
    refine decide_eq_decide.mpr ⟨fun e => by rw [e], fun e => Option.some.inj e⟩
theorem DKs.append {K : Fg} {G : Hp} : ∀ {a b : List (Key × V)} {ds es : List (PD × PD)}, DKs K G a ds → DKs K G b es → DKs K G (a ++ b) (ds ++ es)
  | _, _, _, _, .nil, r => r
  | _, _, _, _, .cons h t, r => .cons h (DKs.append t r)
theorem DKs.upd {K : Fg} {G : Hp} {v : V} {d : PD} (k : Key) (q : DR K G v d) : ∀ {kvs : List (Key × V)} {ds : List (PD × PD)}, DKs K G kvs ds → DKs K G (kvs.map fun kv => if kv.1 = k then (kv.1, v) else kv) (ds.map fun e => if keyP e.1 = some k then (e.1, d) else e)
  | _, _, .nil => .nil
  | _, _, .cons (k := j) (v := u) (d := e) h r => by
    have ih := DKs.upd k q r
    rw [List.map_cons, List.map_cons]
    by_cases hj : j = k
    · have hk : keyP (keyD j) = some k := by rw [keyP_keyD, hj]
      show DKs K G ((if j = k then (j, v) else (j, u)) :: _) ((if keyP (keyD j) = some k then (keyD j, d) else (keyD j, e)) :: _)
      rw [if_pos hj, if_pos hk]
      exact .cons q ih
    · have hk : ¬ keyP (keyD j) = some k := by rw [keyP_keyD]; exact fun z => hj (Option.some.inj z)
      show DKs K G ((if j = k then (j, v) else (j, u)) :: _) ((if keyP (keyD j) = some k then (keyD j, d) else (keyD j, e)) :: _)
      rw [if_neg hj, if_neg hk]
      exact .cons h ih
theorem DKs.put {K : Fg} {G : Hp} {v : V} {d : PD} {kvs : List (Key × V)} {ds : List (PD × PD)} (k : Key) (q : DR K G v d) (r : DKs K G kvs ds) : DKs K G (putK kvs k v) (putP ds k d) := by
  unfold putK putP
  rw [r.has k]
  by_cases h : hasP ds k = true
  · rw [if_pos h, if_pos h]
    exact r.upd k q
  · rw [if_neg h, if_neg h]
    exact r.append (.cons q .nil)
theorem DKs.length {K : Fg} {G : Hp} : ∀ {kvs : List (Key × V)} {ds : List (PD × PD)}, DKs K G kvs ds → kvs.length = ds.length
  | _, _, .nil => rfl
  | _, _, .cons _ r => by rw [List.length_cons, List.length_cons, DKs.length r]
/-! ### the slots -/
theorem Rel.setOwnD {K : Fg} {w : Wd} {G0 H0 : Hp} {σ : L2.St} {env : EnvM} {G H G1 H1 : Hp} {B B1 : Bag} {p : Addr} {kvs : List (Key × V)} {ds : List (PD × PD)} (R : Rel K w G0 H0 σ env G H B) (s : Step w G H G1 H1) (o : Ok w G1 H1 B1) (i : Nat) (hn : NN (H p)) (hp : H1 p = some (.dK kvs)) (hg : G1 p = none) (hb : Nb w p) (r : DKs K G1 kvs ds) :
    Rel K w G0 H0 (σ.set i (some (.ref p))) (env.set i (some (.ownD ds))) G1 H1 B1 := by
  have h0 : NN (H0 p) := R.ent.back0 hn
  refine (R.step s o).put i (fun sv e => by cases e; exact ⟨_, rfl, p, kvs, rfl, hg, h0, hb, hp, r⟩) fun sv e _ j sj q hij ej oj eq z => ?_
  cases eq
  obtain ⟨v, h1, h2⟩ := R.slot j sj ej
  cases sj with
  | d x => cases oj
  | bag => cases oj
  | own ys =>
    obtain ⟨p', vs', e1, _, _, _, hp', _⟩ := h2
    subst e1
    rw [h1] at z
    cases z
    exact hn.ne hp' (fun _ z => by cases z) rfl
  | ownD ys =>
    obtain ⟨p', vs', e1, _, _, _, hp', _⟩ := h2
    subst e1
    rw [h1] at z
    cases z
    exact hn.ne hp' (fun _ z => by cases z) rfl
theorem Rel.upOwnD {K : Fg} {w : Wd} {G0 H0 : Hp} {σ : L2.St} {env : EnvM} {G H : Hp} {B : Bag} {p : Addr} {kvs' : List (Key × V)} {ds ds' : List (PD × PD)} (R : Rel K w G0 H0 σ env G H B) (i : Nat) (e : env[i]? = some (some (.ownD ds))) (hs : σ[i]? = some (some (.ref p))) (r : DKs K G kvs' ds') (hg : G p = none) (h0 : NN (H0 p)) (hb : Nb w p) (hx : ∀ q, H p ≠ some (LamX.CodeO p q)) :
    Rel K w G0 H0 σ (env.set i (some (.ownD ds'))) G (L2.upd H p (.dK kvs')) B := by
  have hi : i < env.length := (List.getElem?_eq_some_iff.mp e).1
  refine ⟨R.ok.mut hg hb hx, ⟨R.ent.exG, R.ent.fr, fun a o n nt q => by rw [upd_ne (h0.ne q nt)]; exact R.ent.keep a o n nt q, fun a o nt q => by rw [upd_ne (h0.ne q nt)]; exact R.ent.there a o nt q⟩, by rw [List.length_set]; exact R.len, fun j sv ej => ?_, fun j k sj sk q hjk ej oj ek ok => ?_, R.wk⟩
  · by_cases hij : i = j
    · subst hij
      rw [List.getElem?_set_self hi] at ej
      cases ej
      exact ⟨_, hs, p, kvs', rfl, hg, h0, hb, upd_same, r⟩
    · rw [List.getElem?_set_ne hij] at ej
      obtain ⟨v, h1, h2⟩ := R.slot j sv ej
      refine ⟨v, h1, ?_⟩
      have npp : ∀ p' : Addr, sv.isOwn = true → v = .ref p' → p' ≠ p := fun p' ow ev z => by
        subst z
        subst ev
        exact R.dist i j _ _ p' hij e rfl ej ow hs h1
      cases sv with
      | d x => exact h2
      | bag => exact h2
      | own ys =>
        obtain ⟨p', us, e1, g', h0', hb', hp', r'⟩ := h2
        exact ⟨p', us, e1, g', h0', hb', by rw [upd_ne (npp p' rfl e1)]; exact hp', r'⟩
      | ownD ys =>
        obtain ⟨p', us, e1, g', h0', hb', hp', r'⟩ := h2
        exact ⟨p', us, e1, g', h0', hb', by rw [upd_ne (npp p' rfl e1)]; exact hp', r'⟩
  · have back : ∀ (j : Nat) (sj : SV), (env.set i (some (.ownD ds')))[j]? = some (some sj) → sj.isOwn = true → ∃ s', env[j]? = some (some s') ∧ s'.isOwn = true := fun j sj ej oj => by
      by_cases hij : i = j
      · subst hij; exact ⟨_, e, rfl⟩
      · rw [List.getElem?_set_ne hij] at ej; exact ⟨sj, ej, oj⟩
    obtain ⟨s1, q1, q2⟩ := back j sj ej oj
    obtain ⟨s2, q3, q4⟩ := back k sk ek ok
    exact R.dist j k s1 s2 q hjk q1 q2 q3 q4
theorem ownD_at {K : Fg} {w : Wd} {G0 H0 : Hp} {σ : L2.St} {env : EnvM} {G H : Hp} {B : Bag} {i : Nat} {ds : List (PD × PD)} (R : Rel K w G0 H0 σ env G H B) (e : env[i]? = some (some (.ownD ds))) : ∃ p kvs, σ[i]? = some (some (.ref p)) ∧ G p = none ∧ NN (H0 p) ∧ Nb w p ∧ H p = some (.dK kvs) ∧ DKs K G kvs ds := by
  obtain ⟨v, h1, p, kvs, rfl, h2⟩ := R.slot i _ e
  exact ⟨p, kvs, h1, h2⟩
section
variable {X : Cx} {W : WX}
/-- x = {} -/
def mDNew (i : Nat) : EnvM → Bag → SRes := fun env B => .nx (env.set i (some (.ownD []))) B
theorem sd_dnew (i : Nat) {x : Str} {p1 pos pos' : Pos} (hN : X.N.Nodup) (hi : X.N[i]? = some x := by rfl) (hx : Loc X.env.scope x := by first | exact Or.inl rfl | exact Or.inr rfl)
    (hs : swapsWith (.Dict [] [] p1) (some (.Name x pos')) pos.line X.env = pure false := by rfl) (hf : X.fn x = true ∨ X.env.scope.names.lookup x = some .local := by first | exact .inl rfl | exact .inr rfl) :
    SD X W (.Assign [.Name x pos'] (.Dict [] [] p1) pos) (tAsg tDNewK (gName i)) (mDNew i) := by
  refine ⟨ps_set hN hi hx pe_dnewK hs hf, fun w G0 H0 σ env G H B D R h p hp => ?_⟩
  exact h _ G _ (R.setOwnD (Step.newH hp) (R.ok.newH hp) i (.inl hp) upd_same (R.ok.free hp) (R.ok.nb hp) .nil) (Sub.refl G)
/-- x[k] = v: the value first -/
def mDPut (i : Nat) (mk mv : EnvM → Bag → Res PD) : EnvM → Bag → SRes := fun env B => (mv env B).s env fun d B1 => match env[i]? with
  | some (some (.ownD ds)) => (mk env B1).s env fun kd B2 => (match keyP kd with
    | some k => if ds.length < sizeLine then .nx (env.set i (some (.ownD (putP ds k d)))) B2 else .bad
    | none => .bad)
  | _ => .bad
theorem sd_dput (i : Nat) {x : Str} {ek ev : Expr} {tk tv : TE} {mk mv : EnvM → Bag → Res PD} {p1 pos pos' : Pos} (hu : X.A.units + 1 < cLine) (hk : ED X W ek tk mk) (hv' : ED X W ev tv mv) (hN : X.N[i]? = some x := by rfl) (hv : Vis X.env.scope x := by first | exact Or.inl rfl | exact Or.inr (Or.inl rfl) | exact Or.inr (Or.inr rfl))
    (hd : (x == ("__debug__" : Str)) = false := by decide) (hcd : (x == ("__classdict__" : Str)) = false := by decide) (hs : swapsWith ev (some (.Subscript (.Name x p1) ek pos')) pos.line X.env = pure false := by rfl) :
    SD X W (.Assign [.Subscript (.Name x p1) ek pos'] ev pos) (sDPut (tVar i) tk tv) (mDPut i mk mv) := by
  refine ⟨ps_dput hu (pe_var hN hv hd hcd) hk.pe hv'.pe hs, fun w G0 H0 σ env G H B D R h => ?_⟩
  refine hv'.sem w G0 H0 σ env G H B _ R (PostS.bind R (Sub.refl _) h fun d B1 v G1 H1 s1 o1 d1 h1 => ?_)
  have R1 := R.step s1 o1
  split at h1
  · rename_i ds q
    obtain ⟨p, kvs, e1, e2, e3, e4, e5, e6⟩ := ownD_at R1 q
    refine ⟨_, e1, ?_⟩
    refine hk.sem w G0 H0 σ env G1 H1 B1 _ R1 (PostS.bind R1 s1.exG h1 fun kd B2 y G2 H2 s2 o2 d2 h2 => ?_)
    cases ek : keyP kd with
    | none => simp only [ek] at h2; exact h2.elim
    | some k =>
      simp only [ek] at h2
      by_cases hl : ds.length < sizeLine
      · rw [if_pos hl] at h2
        have R2 := R1.step s2 o2
        have hp2 := s2.keep p _ e4.one (fun _ z => by cases z) e5
        have ey : y = kV k := keyV d2 ek
        subst ey
        have hg2 : G2 p = none := s2.notIn e2 e5
        refine ⟨p, L2.upd H2 p (.dK (putK kvs k v)), rfl, DPut.k hp2 (by rw [e6.length]; exact hl), ?_⟩
        exact h2 σ G2 _ (R2.upOwnD i q e1 ((e6.mono s2.exG).put k (d1.mono s2.exG)) hg2 e3 e4 (fun _ => by rw [hp2]; exact noCo (fun _ z => by cases z))) (Sub.trans s1.exG s2.exG)
      · rw [if_neg hl] at h2; exact h2.elim
  · exact h1.elim
/-- k in x, x a dict of one's own -/
def mInOwn (i : Nat) (mk : EnvM → Bag → Res PD) : EnvM → Bag → Res Bool := fun env B => (mk env B).bind fun kd B1 => match keyP kd, env[i]? with
  | some k, some (some (.ownD ds)) => .ok (hasP ds k) B1
  | _, _ => .bad
theorem td_inOwn (i : Nat) {x : Str} {ek : Expr} {tk : TE} {mk : EnvM → Bag → Res PD} {p1 pos : Pos} (hu : X.A.units + 1 < cLine) (hk : ED X W ek tk mk) (hN : X.N[i]? = some x := by rfl) (hv : Vis X.env.scope x := by first | exact Or.inl rfl | exact Or.inr (Or.inl rfl) | exact Or.inr (Or.inr rfl))
    (hd : (x == ("__debug__" : Str)) = false := by decide) (hcd : (x == ("__classdict__" : Str)) = false := by decide) :
    TD X W (.Compare ek [.In] [.Name x p1] pos) (tB (tDIn tk (tVar i))) (mInOwn i mk) := by
  refine ⟨pt_cmp (pc_din hu hk.pe (pe_var hN hv hd hcd)) (by with_unfolding_all rfl), fun w G0 H0 σ env G H B Q R h => ?_⟩
  refine hk.sem w G0 H0 σ env G H B _ R (PostR.bind h fun kd B1 y G1 H1 s1 o1 d1 h1 => ?_)
  have R1 := R.step s1 o1
  split at h1
  · rename_i k ds e1 q
    obtain ⟨p, kvs, f1, f2, f3, f4, f5, f6⟩ := ownD_at R1 q
    have ey : y = kV k := keyV d1 e1
    subst ey
    refine ⟨_, f1, p, _, rfl, DGet.k f5, _, rfl, ?_⟩
    rw [← valV_any, f6.has k]
    exact h1 _ G1 H1 Step.refl o1 rfl
  · exact h1.elim
/-- k in e, e a dict among the data -/
def mInDct (mk me : EnvM → Bag → Res PD) : EnvM → Bag → Res Bool := fun env B => (mk env B).bind fun kd B1 => (me env B1).bind fun d B2 => match keyP kd, d with
  | some k, .dict ds => .ok (hasP ds k) B2
  | _, _ => .bad
theorem td_inDct {ek e : Expr} {tk te : TE} {mk me : EnvM → Bag → Res PD} {pos : Pos} (hu : X.A.units + 1 < cLine) (hk : ED X W ek tk mk) (he : ED X W e te me) (hb : behindInMarks .In e = false := by with_unfolding_all rfl) :
    TD X W (.Compare ek [.In] [e] pos) (tB (tDIn tk te)) (mInDct mk me) := by
  refine ⟨pt_cmp (pc_din hu hk.pe he.pe) hb, fun w G0 H0 σ env G H B Q R h => ?_⟩
  refine hk.sem w G0 H0 σ env G H B _ R (PostR.bind h fun kd B1 y G1 H1 s1 o1 d1 h1 => ?_)
  have R1 := R.step s1 o1
  refine he.sem w G0 H0 σ env G1 H1 B1 _ R1 (PostR.bind h1 fun d B2 u G2 H2 s2 o2 d2 h2 => ?_)
  split at h2
  · rename_i k ds e1
    have ey : y = kV k := keyV d1 e1
    subst ey
    cases d2 with
    | dct hx r =>
      refine ⟨_, _, rfl, DGet.k (o2.sub _ _ hx), _, rfl, ?_⟩
      rw [← valV_any, r.has k]
      exact h2 _ G2 H2 Step.refl o2 rfl
  · exact h2.elim
end
end DL
set_option Elab.async false
set_option linter.all false
set_option maxRecDepth 100000
set_option maxHeartbeats 4000000
/-! DL13: an own list or dict becomes data, or is lent to one expression whose value holds no object. -/
namespace DL
open PySem L2
open ZT (PT)
theorem DR.flat {K : Fg} {G G' : Hp} {v : V} {d : PD} (r : DR K G v d) (h : flatP d = true) : DR K G' v d := by
  cases r with
  | non => exact .non
  | bl b => exact .bl b
  | int i => exact .int i
  | str x => exact .str x
  | lst _ _ => cases h
  | tup _ _ => cases h
  | dct _ _ => cases h
theorem Rel.fz {K : Fg} {w : Wd} {G0 H0 : Hp} {σ : L2.St} {env : EnvM} {G H : Hp} {B : Bag} (R : Rel K w G0 H0 σ env G H B) {i : Nat} {sv : SV} {p : Addr} {o : HO} {d : PD} (q : env[i]? = some (some sv)) (ho : sv.isOwn = true) (h1 : σ[i]? = some (some (.ref p))) (g : G p = none) (h0 : NN (H0 p)) (nb : Nb w p) (hp : H p = some o) (hd : DR K (upd G p o) (.ref p) d) (nt : ∀ ps, o ≠ .tbl ps := by intro _ z; cases z) :
    Rel K w G0 H0 σ (env.set i (some (.d d))) (upd G p o) H B := by
  have sg : Sub G (upd G p o) := sub_upd g
  have hi : i < env.length := (List.getElem?_eq_some_iff.mp q).1
  refine ⟨R.ok.freeze nb hp nt, R.ent.freeze g h0, by rw [List.length_set]; exact R.len, fun j sv ej => ?_, fun j k sj sk z hjk ej oj ek ok => ?_, R.wk⟩
  · by_cases hij : i = j
    · subst hij
      rw [List.getElem?_set_self hi] at ej
      cases ej
      exact ⟨_, h1, hd⟩
    · rw [List.getElem?_set_ne hij] at ej
      obtain ⟨v, e1, e2⟩ := R.slot j sv ej
      refine ⟨v, e1, ?_⟩
      cases sv with
      | d x => exact DR.mono sg e2
      | bag => exact e2
      | own ys =>
        obtain ⟨p', us, e3, g', h0', hb', hp', r'⟩ := e2
        subst e3
        have npp : p' ≠ p := fun z => by
          subst z
          exact R.dist i j _ _ p' hij q ho ej rfl h1 e1
        exact ⟨p', us, rfl, by rw [upd_ne npp]; exact g', h0', hb', hp', r'.mono sg⟩
      | ownD ys =>
        obtain ⟨p', us, e3, g', h0', hb', hp', r'⟩ := e2
        subst e3
        have npp : p' ≠ p := fun z => by
          subst z
          exact R.dist i j _ _ p' hij q ho ej rfl h1 e1
        exact ⟨p', us, rfl, by rw [upd_ne npp]; exact g', h0', hb', hp', r'.mono sg⟩
  · have back : ∀ (j : Nat) (sj : SV), (env.set i (some (.d d)))[j]? = some (some sj) → sj.isOwn = true → env[j]? = some (some sj) := fun j sj ej oj => by
      by_cases hij : i = j
      · subst hij
        rw [List.getElem?_set_self hi] at ej
        cases ej; cases oj
      · rw [List.getElem?_set_ne hij] at ej; exact ej
    exact R.dist j k sj sk z hjk (back j sj ej oj) oj (back k sk ek ok) ok
/-- the slot as data -/
def lend (i : Nat) (env : EnvM) : EnvM := match env[i]? with
  | some (some (.own xs)) => env.set i (some (.d (.list xs)))
  | some (some (.ownD ds)) => env.set i (some (.d (.dict ds)))
  | _ => env
theorem Rel.lend {K : Fg} {w : Wd} {G0 H0 : Hp} {σ : L2.St} {env : EnvM} {G H : Hp} {B : Bag} (R : Rel K w G0 H0 σ env G H B) (i : Nat) : ∃ G', Sub G G' ∧ Rel K w G0 H0 σ (lend i env) G' H B := by
  unfold DL.lend
  split
  · rename_i xs q
    obtain ⟨p, vs, h1, g, h0, nb, hp, r⟩ := own_at R q
    exact ⟨_, sub_upd g, R.fz q rfl h1 g h0 nb hp (.lst upd_same (r.mono (sub_upd g)))⟩
  · rename_i ds q
    obtain ⟨p, kvs, h1, g, h0, nb, hp, r⟩ := ownD_at R q
    exact ⟨_, sub_upd g, R.fz q rfl h1 g h0 nb hp (.dct upd_same (r.mono (sub_upd g)))⟩
  · exact ⟨G, Sub.refl G, R⟩
/-- for good -/
def mFz (i : Nat) (m : EnvM → Bag → SRes) : EnvM → Bag → SRes := fun env B => m (lend i env) B
/-- for one expression -/
def mLendE (i : Nat) (m : EnvM → Bag → Res PD) : EnvM → Bag → Res PD := fun env B => match m (lend i env) B with
  | .ok d B1 => if flatP d = true then .ok d B1 else .bad
  | _ => .bad
def mLendT (i : Nat) (m : EnvM → Bag → Res Bool) : EnvM → Bag → Res Bool := fun env B => match m (lend i env) B with
  | .ok d B1 => .ok d B1
  | _ => .bad
theorem Step.back {w : Wd} {G H G1 G' H' : Hp} (s1 : Sub G G1) (s : Step w G1 H G' H') : Step w G H G H' := ⟨fun _ _ h => h, fun _ _ h => .inl h, s.keep, s.there⟩
theorem Ok.back {w : Wd} {G H G' H' : Hp} {B B' : Bag} (k : Ok w G H B) (s1 : Sub G G') (o : Ok w G' H' B') (hc : B'.cells = B.cells) : Ok w G H' B' := ⟨fun a u h => o.sub a u (s1 a u h), o.bag, k.gb, o.tabs, k.gt, fun b l e => by rw [hc]; exact k.gl b l e⟩
section
variable {X : Cx} {W : WX}
theorem sds_fz (i : Nat) {sts : List Stmt} {t : TS} {m : EnvM → Bag → SRes} (h : SDs X W sts t m) : SDs X W sts t (mFz i m) := by
  refine ⟨h.pe, fun w G0 H0 σ env G H B D R hp => ?_⟩
  obtain ⟨G', s, R'⟩ := R.lend i
  exact h.sem w G0 H0 σ (lend i env) G' H B D R' (PostS.sub s hp)
theorem gl_cells {w : Wd} {G G' H H' : Hp} {B B' : Bag} (k : Ok w G H B) (s : Sub G G') (o : Ok w G' H' B') : ∀ b l, w.bg = some (b, l) → G l = some (.lst (B'.cells.map fun n : Nat => V.int (n : Int))) := fun b l e => by
  have h1 := k.gl b l e
  have h2 := o.gl b l e
  have h3 := s _ _ h1
  rw [h2] at h3
  rw [h1, ← h3]
theorem Ok.back' {w : Wd} {G H G' H' : Hp} {B B' : Bag} (k : Ok w G H B) (s1 : Sub G G') (o : Ok w G' H' B') : Ok w G H' B' := ⟨fun a u h => o.sub a u (s1 a u h), o.bag, k.gb, o.tabs, k.gt, gl_cells k s1 o⟩
theorem ed_lend (i : Nat) {e : Expr} {t : TE} {m : EnvM → Bag → Res PD} (h : ED X W e t m) : ED X W e t (mLendE i m) := by
  refine ⟨h.pe, fun w G0 H0 σ env G H B Q R hp => ?_⟩
  obtain ⟨G1, s1, R1⟩ := R.lend i
  refine h.sem w G0 H0 σ _ G1 H B Q R1 ?_
  unfold mLendE at hp
  cases e1 : m (lend i env) B with
  | bad => rw [e1] at hp; exact hp.elim
  | exc c as B1 => rw [e1] at hp; exact hp.elim
  | ok d B1 =>
    rw [e1] at hp
    have hp : PostE X.K X.mg w G H (if flatP d = true then .ok d B1 else .bad) Q (fun c d H' => W c d σ H') := hp
    by_cases hf : flatP d = true
    · rw [if_pos hf] at hp
      exact fun v G' H' s o r => hp v G H' (Step.back s1 s) (R.ok.back' (Sub.trans s1 s.exG) o) (r.flat hf)
    · rw [if_neg hf] at hp; exact hp.elim
theorem td_lend (i : Nat) {e : Expr} {t : TT} {m : EnvM → Bag → Res Bool} (h : TD X W e t m) : TD X W e t (mLendT i m) := by
  refine ⟨h.pe, fun w G0 H0 σ env G H B Q R hp => ?_⟩
  obtain ⟨G1, s1, R1⟩ := R.lend i
  refine h.sem w G0 H0 σ _ G1 H B Q R1 ?_
  unfold mLendT at hp
  cases e1 : m (lend i env) B with
  | bad => rw [e1] at hp; exact hp.elim
  | exc c as B1 => rw [e1] at hp; exact hp.elim
  | ok d B1 =>
    rw [e1] at hp
    exact fun v G' H' s o r => hp v G H' (Step.back s1 s) (R.ok.back' (Sub.trans s1 s.exG) o) r
theorem wd_lend (i : Nat) {e : Expr} {t : TT} {m : EnvM → Bag → Res Bool} (h : WD X W e t m) : WD X W e t (mLendT i m) := by
  refine ⟨h.pe, fun w G0 H0 σ env G H B Q R hp => ?_⟩
  obtain ⟨G1, s1, R1⟩ := R.lend i
  refine h.sem w G0 H0 σ _ G1 H B Q R1 ?_
  unfold mLendT at hp
  cases e1 : m (lend i env) B with
  | bad => rw [e1] at hp; exact hp.elim
  | exc c as B1 => rw [e1] at hp; exact hp.elim
  | ok d B1 =>
    rw [e1] at hp
    exact fun v G' H' s o r => hp v G H' (Step.back s1 s) (R.ok.back' (Sub.trans s1 s.exG) o) r
end
end DL
set_option Elab.async false
set_option linter.all false
set_option maxRecDepth 100000
set_option maxHeartbeats 4000000
/-! ZE: enumerate over a tuple, walked. -/
namespace ZE
open PySem PySem.Spec PyProof.Rows L2
def Iet (K : PySem.W.Frag) (a : Addr) : It :=
  ⟨fun i H => ∃ (xs : List V) (x : V), SqT K H a xs ∧ xs[i]? = some x, fun i H v H' => ∃ T x, v = .ref T ∧ H T = none ∧ H' = upd H T (.tup [.int (i : Nat), x]) ∧ ∀ xs, SqT K H a xs → xs[i]? = some x, fun i H => ∃ xs : List V, SqT K H a xs ∧ xs.length ≤ i⟩
theorem ne_enum {h : Heap} {e it a : Addr} {c : Int} {old : Value} {items : Array Value} (he : IsEnum h e it c old) (ht : h.IsTuple a items) : e ≠ a := fun z => by
  subst z
  obtain ⟨o, h1, h2, _⟩ := ht
  have h3 := he.symm.trans h1
  cases h3
  have q : Value.type "enumerate" = Value.type "tuple" := h2
  injection q with q1
  exact absurd q1 (by decide)
theorem ne_iter {h : Heap} {it a b : Addr} {i : Nat} {items : Array Value} (he : h.IsTupleIter it b i) (ht : h.IsTuple a items) : a ≠ it := fun z => by
  subst z
  obtain ⟨o, h1, h2, _⟩ := ht
  obtain ⟨o', h1', h2', _⟩ := he
  rw [h1] at h1'
  cases h1'
  rw [h2] at h2'
  exact absurd h2' (by decide)
theorem turn_enumT {P : Program} {w : World} {K : PySem.W.Frag} {elts : List Expr} {kk : Nat} {tpos : Pos} (a e it : Addr) :
    Turn P w K (.Tuple elts kk tpos) (Iet K a) [e, it] e (fun i h => (∃ old, IsEnum h e it ((i : Nat) : Int) old) ∧ h.IsTupleIter it a i ∧ e ≠ it) where
  mem := by simp
  obj := fun i h st b hb => by
    obtain ⟨⟨old, he⟩, ⟨o, ho, hc, hd⟩, _⟩ := st
    have e' : b = e ∨ b = it := by simpa using hb
    rcases e' with z | z
    · rw [z]; exact ⟨_, he, fun v q => nomatch q⟩
    · rw [z]; exact ⟨o, ho, fun v q => by rw [hd] at q; cases q⟩
  keep := fun i h h' st k => let ⟨⟨old, he⟩, hi, hne⟩ := st; ⟨⟨old, k e (by simp) _ he⟩, hi.at fun o q => k it (by simp) o q, hne⟩
  item := by
    intro X hP hw hK hc i pins s σ H E I hf st hg
    subst hP hw hK
    obtain ⟨⟨old, he⟩, hit, hne⟩ := st
    obtain ⟨xs, x, hq, hx⟩ := hg
    obtain ⟨its, rv, p, hz⟩ := I.tuple hq
    obtain ⟨u, hu, ru⟩ := rv.get hx
    have hel : e < s.heap.objs.size := Heap.lt_size he
    have hil : it < s.heap.objs.size := by obtain ⟨_, q, _⟩ := hit; exact Heap.lt_size q
    have pT : s.heap.IsTuple a its.toArray := p
    have hea : e ≠ a := ne_enum he pT
    have hai : a ≠ it := ne_iter hit pT
    have hil2 : i < its.toArray.size := by
      have := (List.getElem?_eq_some_iff.mp hu).1
      simpa using this
    refine wpAny_pyNext_enum_itemD (Draws.tuple (A := X.A.in1) (I.ok.hd hc) it a hai its.toArray) he ⟨hit, pT⟩ hil2 hne (by simp [hne, hea]) fun y h' tk hy ho hit' hT hsz hk => ?_
    have ey : y = u := by
      have hy : its.toArray[i]? = some y := hy
      have h2 : its.toArray[i]? = some u := by simpa using hu
      rw [hy] at h2; cases h2; rfl
    subst ey
    refine ⟨_, rfl, wpAny_letOwnedTupleGo_enum (s := { s with heap := h', toks := tk + 1 }) ho fun h'' he' sb => ?_⟩
    have hT2 : h''.get? s.heap.objs.size = some { cls := .type "tuple", data := .seq #[.int i tk, y] } := (sb.2 _ (Nat.ne_of_gt hel)).trans hT
    have new : ObjOk X.prog X.w (upd H s.heap.objs.size (.tup [.int (i : Nat), x])) h'' s.heap.objs.size (.tup [.int (i : Nat), x]) :=
      ⟨by show 2 ≤ sizeLine; decide, [.int i tk, y], .cons ⟨_, rfl⟩ (.cons ru .nil), ⟨_, hT2, rfl, _, rfl⟩⟩
    have I1 : Inv X pins σ (upd H s.heap.objs.size (.tup [.int (i : Nat), x])) { s with heap := h'', toks := tk + 1 } :=
      I.turnedNew (ch := [e, it]) (fun b ob hb q => (sb.2 b (fun z => hb (by simp [z]))).trans (hk b ob (fun z => hb (by simp [z])) (fun z => hb (by simp [z])) q)) hf (Nat.le_refl _) new
    refine ⟨.ref s.heap.objs.size, _, I1, rfl, ⟨_, x, rfl, I.hok.fresh (Nat.le_refl _), rfl, fun ys hy => by rw [I.tuple_inj hy hq]; exact hx⟩, ⟨⟨y, ?_⟩, hit'.1.at fun o q => (sb.2 it (Ne.symm hne)).trans q, hne⟩, fun b hb => ?_⟩
    · have e1 : ((i + 1 : Nat) : Int) = (i : Int) + 1 := by omega
      rw [e1]; exact he'
    · have hb' : b < s.heap.objs.size := by
        have e' : b = e ∨ b = it := by simpa using hb
        rcases e' with z | z
        · rw [z]; exact hel
        · rw [z]; exact hil
      rw [upd_ne (Nat.ne_of_lt hb')]
      exact (hf b hb).1
  done := by
    intro X hP hw hK hc i pins s σ H E I hf st hg
    subst hP hw hK
    obtain ⟨⟨old, he⟩, hit, hne⟩ := st
    obtain ⟨xs, hq, hx⟩ := hg
    obtain ⟨its, rv, p, hz⟩ := I.tuple hq
    obtain ⟨f0, f1, f2, f3, f4, f5⟩ := hf it (by simp)
    have hl := rv.length
    have pT : s.heap.IsTuple a its.toArray := p
    have hT : s.TypeIs (.ref e) "enumerate" := ⟨_, he, rfl⟩
    unfold pyNext
    refine wpAny_bind (wpAny_attempt (wpAny_callSpecial?_slot (name := Str.ofString "__next__") hT F.slot_enumerate_next
      (wpAny_call_entry F.slot_enumerate_next hT F.entry_enumerate_next ?_ (F.args_enumerate_next_1 _))))
    show wpAny _ _ (field (.ref e) 2 >>= _) _ _ _
    refine wpAny_bind (wpAny_field he rfl (x := .ref it) rfl ?_)
    refine wpAny_bind (wpAny_nextOf_tuple_end (I.ok.hd hc) hit pT (by simp; omega) fun h' x he' hx' => ?_)
    obtain ⟨o, ho, hc'⟩ := hx'
    refine wpAny_bind (wpAny_isInstance (T := "StopIteration") (b := true) ⟨o, ho, hc'⟩ isSubtype_stop ?_)
    exact wpAny_pure ⟨rfl, I.turned (t' := s.toks) (fun b o hb q => he' b o hb q) f0 f1 f3 f4 f5⟩
  self := fun A i s Q E st h => let ⟨⟨_, he⟩, _⟩ := st; wpAny_pyIter_enum he h
theorem meets_enumerate_newT (l : Addr) (items : Array Value) :
    Meets (Builtin.«enumerate.__new__» ⟨[.type "enumerate", .ref l], []⟩) (fun _ R s => s.heap.IsTuple l items ∧
      R (.ok (.ret (.ref (s.heap.push { cls := .type "tuple_iterator", data := .fields #[.ref l, .int 0 0] }).objs.size)))
        { s with heap := (s.heap.push { cls := .type "tuple_iterator", data := .fields #[.ref l, .int 0 0] }).push { cls := .type "enumerate", data := .fields #[.none, .bool false, .ref s.heap.objs.size, rawInt 0, .none, .none] } }) :=
  .of_wp fun prog w A R s h => by
    obtain ⟨hp, g, d, tk, os⟩ := s; obtain ⟨hl, h⟩ := h
    have hsub := sub_enumerate
    obtain ⟨⟨oc, od, odt, osl⟩, h1, h2, n, h3⟩ := id hl
    have h2 : oc = .type "tuple" := h2
    have h3 : odt = .seq items n := h3
    subst h2 h3
    have hL : Heap.IsTuple (Shared.heap ⟨hp, g, d, tk, os⟩) l items := hl
    wp_walk using AutoSeq1.wpAny_loadPart' h1
    refine wpAny_stack_any fun st => wpAny_pure ?_
    split
    · rename_i c _ _ _ _ _
      cases (c == Value.type "enumerate")
      · wp_walk using AutoSeq1.wpAny_loadPart' h1, wpAny_pyIter_tuple hL
        exact ⟨_, rfl, h⟩
      · wp_walk using AutoSeq1.wpAny_loadPart' h1, wpAny_pyIter_tuple hL
        exact ⟨_, rfl, h⟩
    · wp_walk using AutoSeq1.wpAny_loadPart' h1, wpAny_pyIter_tuple hL
      exact ⟨_, rfl, h⟩
theorem call_enumerate_tuple {prog : Program} {w : World} {A : Around} {E : Value → Shared → Prop} {s : Shared} {l : Addr} {items : Array Value} {Q : Value → Shared → Prop} (hL : s.heap.IsTuple l items)
    (h : ∀ h', IsEnum h' (s.heap.objs.size + 1) s.heap.objs.size 0 .none → h'.IsTupleIter s.heap.objs.size l 0 → h'.objs.size = s.heap.objs.size + 2 →
      (∀ b o, s.heap.get? b = some o → h'.get? b = some o) → Q (.ref (s.heap.objs.size + 1)) { s with heap := h' }) :
    wpAny (model prog w) A (call (.type "enumerate") [.ref l]) Q E s := by
  refine callType_new F.called_enumerate (by decide) (F.typeCall_enumerate_1 _) (F.newCall_enumerate_1 _) (fun obj => F.args_object_init_2 obj _) F.entry_enumerate_new
    (meets_enumerate_newT l items) ⟨hL, ?_⟩
  have hz : (s.heap.push { cls := .type "tuple_iterator", data := .fields #[.ref l, .int 0 0] }).objs.size = s.heap.objs.size + 1 := Heap.size_push ..
  show _ ∧ _
  rw [hz]
  have he : IsEnum ((s.heap.push { cls := .type "tuple_iterator", data := .fields #[.ref l, .int 0 0] }).push
      { cls := .type "enumerate", data := .fields #[.none, .bool false, .ref s.heap.objs.size, rawInt 0, .none, .none] }) (s.heap.objs.size + 1) s.heap.objs.size 0 .none := by
    have := Heap.get?_push_size (s.heap.push { cls := .type "tuple_iterator", data := .fields #[.ref l, .int 0 0] })
      (o := { cls := .type "enumerate", data := .fields #[.none, .bool false, .ref s.heap.objs.size, rawInt 0, .none, .none] }) rfl
    rw [hz] at this; exact this
  refine ⟨⟨_, he, rfl⟩, h _ he ⟨_, Heap.get?_push_of_some _ (Heap.get?_push_size _ rfl), rfl, rfl⟩ (by rw [Heap.size_push, hz]) fun b o x => Heap.get?_push_of_some _ (Heap.get?_push_of_some _ x)⟩
def iEnumT (K : PySem.W.Frag) (ta : TA) : TI := fun σ H R => ta σ H fun vs H1 => ∃ a xs, vs = [.ref a] ∧ SqT K H1 a xs ∧ R (Iet K a) H1
theorem pi_enumT {X : Cx} {e : Expr} {ta : TA} {p pos tpos : Pos} {elts : List Expr} {kk : Nat} (hg : Gl X "enumerate") (hm : X.mg "enumerate" = none) (ha : PA X [e] ta) (hs : starEach [e] X.env = [(false, eval e X.env)] := by rfl) :
    PI X (.Tuple elts kk tpos) (.Call (.Name "enumerate" p) [e] [] pos) (iEnumT X.K ta) := by
  refine ⟨fun pins s σ H R I h => ?_⟩
  refine Call_ (ld_blt I hg hm boot_enumerate (PyProof.Rows.callWith_type1 (thn (ha.run pos pins s σ H _ I h) fun us s1 ⟨vs, H1, I1, r1, q1⟩ => ?_) hs rfl))
  obtain ⟨a, xs, ex, hq, q⟩ := q1
  subst ex
  cases r1 with
  | cons r rr =>
    cases rr
    cases r
    obtain ⟨its, rv, p', hz⟩ := I1.tuple hq
    refine call_enumerate_tuple (show s1.heap.IsTuple a its.toArray from p') fun h' he hit hsz hk => wpAny_pyIter_enum he ?_
    have I2 : Inv X pins σ H1 { s1 with heap := h' } := I1.kept (t' := s1.toks) hk
    refine ⟨s1.heap.objs.size + 1, [s1.heap.objs.size + 1, s1.heap.objs.size], _, _, H1, rfl, I2, turn_enumT a (s1.heap.objs.size + 1) s1.heap.objs.size, ⟨⟨.none, he⟩, hit, Nat.succ_ne_self _⟩, fun b hb => ?_, q⟩
    have e' : b = s1.heap.objs.size + 1 ∨ b = s1.heap.objs.size := by simpa using hb
    have hle : s1.heap.objs.size ≤ b := by
      rcases e' with z | z
      · rw [z]; exact Nat.le_add_right _ _
      · rw [z]; exact Nat.le_refl _
    exact I1.fpOk hle (I1.hok.fresh hle)
end ZE
set_option Elab.async false
set_option linter.all false
set_option maxRecDepth 100000
set_option maxHeartbeats 4000000
/-! DL14: enumerate. -/
namespace DL
open PySem L2
open ZT (PT)
def enumFrom (i : Nat) : List PD → List PD
  | [] => []
  | d :: ds => .tuple [.int (i : Int), d] :: enumFrom (i + 1) ds
def enumP (ds : List PD) : List PD := enumFrom 0 ds
theorem enumFrom_get : ∀ {ds : List PD} {j i : Nat} {d : PD}, (enumFrom j ds)[i]? = some d → ∃ e, ds[i]? = some e ∧ d = .tuple [.int ((j + i : Nat) : Int), e]
  | [], _, _, _, h => by simp [enumFrom] at h
  | e :: es, j, 0, d, h => by
    simp only [enumFrom, List.getElem?_cons_zero] at h
    cases h
    exact ⟨e, rfl, rfl⟩
  | e :: es, j, i + 1, d, h => by
    simp only [enumFrom, List.getElem?_cons_succ] at h
    obtain ⟨e', h1, h2⟩ := enumFrom_get h
    refine ⟨e', h1, ?_⟩
    rw [h2, Nat.add_right_comm j 1 i]
    rfl
theorem enumFrom_len : ∀ (j : Nat) (ds : List PD), (enumFrom j ds).length = ds.length
  | _, [] => rfl
  | j, d :: ds => by
    show (enumFrom (j + 1) ds).length + 1 = ds.length + 1
    rw [enumFrom_len]
theorem enumP_get {ds : List PD} {i : Nat} {d : PD} (h : (enumP ds)[i]? = some d) : ∃ e, ds[i]? = some e ∧ d = .tuple [.int (i : Int), e] := by
  obtain ⟨e, h1, h2⟩ := enumFrom_get h
  rw [Nat.zero_add] at h2
  exact ⟨e, h1, h2⟩
theorem Walks.enumL {K : Fg} {G : Hp} {a : Addr} {vs : List V} {ds : List PD} (h : G a = some (.lst vs)) (r : DRs K G vs ds) : Walks K false (Ite K a) G (enumP ds) where
  go := fun i H d hs e => by
    obtain ⟨e', h1, _⟩ := enumP_get e
    obtain ⟨v, h2, _⟩ := r.get h1
    exact ⟨vs, v, subL hs h, h2⟩
  yld := fun i w G' H B x H' d o hs e y => by
    obtain ⟨e', h1, h2⟩ := enumP_get e
    obtain ⟨v, h3, h4⟩ := r.get h1
    obtain ⟨T, x', e1, hT, e2, q⟩ := y
    have h5 := q vs (subL o.sub (hs _ _ h))
    rw [h3] at h5
    cases h5
    subst e1 e2 h2
    refine ⟨upd G' T (.tup [.int (i : Int), v]), Step.new o.sub hT, o.new hT, .inr ⟨T, _, _, rfl, rfl, SqT.of upd_same, .cons (.int _) (.cons (h4.mono (Sub.trans hs (sub_upd (o.free hT)))) .nil)⟩⟩
  stop := fun i H hs e => ⟨vs, subL hs h, by rw [r.length]; unfold enumP at e; rw [enumFrom_len] at e; exact e⟩
theorem Walks.enumT {K : Fg} {G : Hp} {a : Addr} {vs : List V} {ds : List PD} (h : PT K G a vs) (r : DRs K G vs ds) : Walks K false (ZE.Iet K a) G (enumP ds) where
  go := fun i H d hs e => by
    obtain ⟨e', h1, _⟩ := enumP_get e
    obtain ⟨v, h2, _⟩ := r.get h1
    exact ⟨vs, v, subT hs h, h2⟩
  yld := fun i w G' H B x H' d o hs e y => by
    obtain ⟨e', h1, h2⟩ := enumP_get e
    obtain ⟨v, h3, h4⟩ := r.get h1
    obtain ⟨T, x', e1, hT, e2, q⟩ := y
    have h5 := q vs (subT o.sub (sbPT hs h))
    rw [h3] at h5
    cases h5
    subst e1 e2 h2
    refine ⟨upd G' T (.tup [.int (i : Int), v]), Step.new o.sub hT, o.new hT, .inr ⟨T, _, _, rfl, rfl, SqT.of upd_same, .cons (.int _) (.cons (h4.mono (Sub.trans hs (sub_upd (o.free hT)))) .nil)⟩⟩
  stop := fun i H hs e => ⟨vs, subT hs h, by rw [r.length]; unfold enumP at e; rw [enumFrom_len] at e; exact e⟩
def mEnum (m : EnvM → Bag → Res PD) : EnvM → Bag → Res (List PD) := fun env B => (m env B).bind fun d B1 => match d with
  | .list ds => .ok (enumP ds) B1
  | .tuple ds => .ok (enumP ds) B1
  | _ => .bad
theorem wi_enum {X : Cx} {W : WX} (K : Fg) {e : Expr} {t : TE} {m : EnvM → Bag → Res PD} {p pos tpos : Pos} {elts : List Expr} {kk : Nat} (hm : X.mg "enumerate" = none) (h : ED X W e t m) (hg : Gl X "enumerate" := by rfl) (hs : starEach [e] X.env = [(false, eval e X.env)] := by rfl) (hK : X.K = K := by rfl) :
    WI X W false (.Tuple elts kk tpos) (.Call (.Name "enumerate" p) [e] [] pos) (fun σ H R => iEnum K (tCons t tNil) σ H R ∨ ZE.iEnumT K (tCons t tNil) σ H R) (mEnum m) := by
  subst hK
  refine ⟨pi_or (pi_enum hg hm (pa_cons h.pe pa_nil hs) hs) (ZE.pi_enumT hg hm (pa_cons h.pe pa_nil hs) hs), fun w G0 H0 σ env G H B Q R hp => ?_⟩
  unfold mEnum at hp
  cases e : m env B with
  | ok d B1 =>
    rw [e] at hp
    have mk : ∀ Q1 : VK, (∀ v G' H', Step w G H G' H' → Ok w G' H' B1 → DR X.K G' v d → Q1 v H') → PostE X.K X.mg w G H (m env B) Q1 (fun c d H' => W c d σ H') := fun Q1 k => by
      rw [e]
      exact k
    cases d with
    | list ds =>
      left
      refine h.sem w G0 H0 σ env G H B _ R (mk _ fun v G' H' s o dv => ?_)
      cases dv with
      | lst hx r => exact ⟨_, _, rfl, subL o.sub hx, hp _ G' H' s o (Walks.enumL hx r)⟩
    | tuple ds =>
      right
      refine h.sem w G0 H0 σ env G H B _ R (mk _ fun v G' H' s o dv => ?_)
      cases dv with
      | tup hx r => exact ⟨_, _, rfl, subT o.sub hx, hp _ G' H' s o (Walks.enumT hx r)⟩
    | _ => exact (show False from hp).elim
  | exc c as B1 =>
    rw [e] at hp
    left
    refine h.sem w G0 H0 σ env G H B _ R ?_
    rw [e]
    exact hp
  | bad => rw [e] at hp; exact hp.elim
end DL
set_option Elab.async false
set_option linter.all false
set_option maxRecDepth 100000
set_option maxHeartbeats 4000000
/-! DL15: an expression whose value a slot takes over: data, or a new list or dict of one's own. -/
namespace DL
open PySem L2
open ZT (PT)
def PostM (K : Fg) (mg : Str → Option Value) (w : Wd) (G H : Hp) (r : Res SV) (Q : VK) (E : XK) : Prop := match r with
  | .ok sv B' => ∀ (v : V) (G' H' : Hp), Step w G H G' H' → Ok w G' H' B' → SR K w H G' H' v sv → Q v H'
  | .exc c as B' => ExcP K mg w G H c as B' E
  | .bad => False
structure MD (X : Cx) (W : WX) (e : Expr) (t : TE) (m : EnvM → Bag → Res SV) : Prop where
  pe : PE X e t
  sem : ∀ (w : Wd) (G0 H0 : Hp) (σ : L2.St) (env : EnvM) (G H : Hp) (B : Bag) (Q : VK), Rel X.K w G0 H0 σ env G H B →
    PostM X.K X.mg w G H (m env B) Q (fun c d H' => W c d σ H') → t σ H Q
theorem PostS.bindM {K : Fg} {mg : Str → Option Value} {w : Wd} {G0 H0 G H Gs : Hp} {r : Res SV} {f : SV → Bag → SRes} {Q1 : VK} {D : Ends} {W : WX} {σ : L2.St} {env : EnvM} {B0 : Bag} (R : Rel K w G0 H0 σ env G H B0) (hs : Sub Gs G)
    (h : PostS K mg w G0 H0 Gs W D (r.s env f)) (k : ∀ a B' v G' H', Step w G H G' H' → Ok w G' H' B' → SR K w H G' H' v a → PostS K mg w G0 H0 Gs W D (f a B') → Q1 v H') : PostM K mg w G H r Q1 (fun c d H' => W c d σ H') := by
  cases r with
  | ok a B => exact fun v G2 H2 s2 o d => k a B v G2 H2 s2 o d h
  | exc c as B => exact fun cls dd fs G' H' m s o d f => h σ cls dd fs G' H' m (R.step s o) (Sub.trans hs s.exG) d f
  | bad => exact h
theorem PostM.bind {β α : Type} {K : Fg} {mg : Str → Option Value} {w : Wd} {G H : Hp} {Ra : Hp → β → α → Prop} {r : Res α} {f : α → Bag → Res SV} {Q : VK} {Q1 : β → Hp → Prop} {E : XK}
    (h : PostM K mg w G H (r.bind f) Q E) (k : ∀ a B' v G' H', Step w G H G' H' → Ok w G' H' B' → Ra G' v a → PostM K mg w G H (f a B') Q E → Q1 v H') : PostR K mg w G H Ra r Q1 E := by
  cases r with
  | ok a B => exact fun v G2 H2 s2 o d => k a B v G2 H2 s2 o d h
  | exc c as B => exact h
  | bad => exact h
theorem Rel.setSV {K : Fg} {w : Wd} {G0 H0 : Hp} {σ : L2.St} {env : EnvM} {G H G1 H1 : Hp} {B B1 : Bag} {v : V} {sv : SV} (R : Rel K w G0 H0 σ env G H B) (s : Step w G H G1 H1) (o : Ok w G1 H1 B1) (i : Nat) (h : SR K w H G1 H1 v sv) :
    Rel K w G0 H0 (σ.set i (some v)) (env.set i (some sv)) G1 H1 B1 := by
  cases sv with
  | d x => exact (R.step s o).set i h
  | own xs =>
    obtain ⟨p, vs, rfl, h1, h2, h3, h4, h5⟩ := h
    exact R.setOwn s o i h2 h4 h1 h3 h5
  | ownD ds =>
    obtain ⟨p, vs, rfl, h1, h2, h3, h4, h5⟩ := h
    exact R.setOwnD s o i h2 h4 h1 h3 h5
  | bag => exact (R.step s o).put i (fun sv e => by cases e; exact ⟨v, rfl, h⟩) fun sv e o => by cases e; cases o
section
variable {X : Cx} {W : WX}
theorem md_d {t : TE} {e : Expr} {m : EnvM → Bag → Res PD} (h : ED X W e t m) : MD X W e t (mG m) :=
  ⟨h.pe, fun w G0 H0 σ env G H B Q R hp => h.sem w G0 H0 σ env G H B _ R (PostM.bind hp fun d B1 v G1 H1 s1 o1 d1 h1 => h1 v G1 H1 s1 o1 d1)⟩
/-- [..] as one's own -/
def mML (m : EnvM → Bag → Res (List SV)) : EnvM → Bag → Res SV := fun env B => (m env B).bind fun ss B1 => match unD ss with
  | some ds => if ds.length ≤ sizeLine then .ok (.own ds) B1 else .bad
  | none => .bad
theorem md_lst {es : List Expr} {t : TA} {m : EnvM → Bag → Res (List SV)} {pl : Pos} (ha : AD X W es t m) : MD X W (.List es pl) (tLst t) (mML m) := by
  refine ⟨pe_lst ha.pe, fun w G0 H0 σ env G H B Q R h => ?_⟩
  refine ha.sem w G0 H0 σ env G H B _ R (PostM.bind h fun ss B1 vs G1 H1 s1 o1 d1 h1 => ?_)
  cases e : unD ss with
  | none => simp only [e] at h1; exact h1.elim
  | some ds =>
    simp only [e] at h1
    have r := d1.un e
    by_cases hl : ds.length ≤ sizeLine
    · rw [if_pos hl] at h1
      refine ⟨by rw [r.length]; exact hl, fun p hp => ?_⟩
      have hp0 : NN (H p) := s1.back0 (.inl hp)
      exact h1 _ G1 _ (s1.trans (Step.newH hp)) (o1.newH hp) ⟨p, vs, rfl, o1.free hp, hp0, o1.nb hp, upd_same, r⟩
    · rw [if_neg hl] at h1; exact h1.elim
/-- {} as one's own -/
def mMD : EnvM → Bag → Res SV := fun _ B => .ok (.ownD []) B
theorem md_dnew {p : Pos} : MD X W (.Dict [] [] p) tDNewK mMD :=
  ⟨pe_dnewK, fun w G0 H0 σ env G H B Q R h p hp => h _ G _ (Step.newH hp) (R.ok.newH hp) ⟨p, [], rfl, R.ok.free hp, .inl hp, R.ok.nb hp, upd_same, .nil⟩⟩
/-- list(e) as one's own -/
def mMList (m : EnvM → Bag → Res (List SV)) : EnvM → Bag → Res SV := fun env B => (m env B).bind fun ss B1 => match unD ss with
  | some [.list ds] => .ok (.own ds) B1
  | some [.tuple ds] => .ok (.own ds) B1
  | _ => .bad
theorem md_list (K : Fg) {e : Expr} {p pos : Pos} {t : TA} {m : EnvM → Bag → Res (List SV)} (hm : X.mg "list" = none) (ha : AD X W [e] t m) (hg : Gl X "list" := by rfl)
    (he : starEach [e] X.env = (false, eval e X.env) :: starEach [] X.env := by rfl) (hpl : (backTo pos (starEach [] X.env)).any (·.1) = false := by rfl) (hK : X.K = K := by rfl) : MD X W (.Call (.Name "list" p) [e] [] pos) (tCB (rListK K) t) (mMList m) := by
  subst hK
  refine ⟨pe_callTy call_list_of hg hm (by decide +kernel) ha.pe (by decide) (by decide) he hpl, fun w G0 H0 σ env G H B Q R h => ?_⟩
  refine ha.sem w G0 H0 σ env G H B _ R (PostM.bind h fun ss B1 vs G1 H1 s1 o1 d1 h1 => ?_)
  have fin : ∀ (p0 : Addr) (ys : List V) (ds : List PD), DRs X.K G1 ys ds → PostM X.K X.mg w G H (.ok (.own ds) B1) Q (fun c d H' => W c d σ H') → ∀ l, H1 l = none → Q (.ref l) (upd H1 l (.lst ys)) := fun p0 ys ds r h1 l hp => by
    have hp0 : NN (H l) := s1.back0 (.inl hp)
    exact h1 _ G1 _ (s1.trans (Step.newH hp)) (o1.newH hp) ⟨l, ys, rfl, o1.free hp, hp0, o1.nb hp, upd_same, r⟩
  split at h1
  · rename_i ds e1
    obtain ⟨v, rfl, d⟩ := (d1.un e1).one
    cases d with
    | lst hx q => exact ⟨_, _, rfl, .inl (subL o1.sub hx), fin 0 _ _ q h1⟩
  · rename_i ds e1
    obtain ⟨v, rfl, d⟩ := (d1.un e1).one
    cases d with
    | tup hx q => exact ⟨_, _, rfl, .inr (subT o1.sub hx), fin 0 _ _ q h1⟩
  · exact h1.elim
/-- x = e -/
def mSetM (i : Nat) (m : EnvM → Bag → Res SV) : EnvM → Bag → SRes := fun env B => (m env B).s env fun sv B1 => .nx (env.set i (some sv)) B1
theorem sd_setM (i : Nat) {x : Str} {e : Expr} {t : TE} {m : EnvM → Bag → Res SV} {pos pos' : Pos} (hN : X.N.Nodup) (ha : MD X W e t m) (hi : X.N[i]? = some x := by rfl) (hx : Loc X.env.scope x := by first | exact Or.inl rfl | exact Or.inr rfl)
    (hs : swapsWith e (some (.Name x pos')) pos.line X.env = pure false := by rfl) (hf : X.fn x = true ∨ X.env.scope.names.lookup x = some .local := by first | exact .inl rfl | exact .inr rfl) :
    SD X W (.Assign [.Name x pos'] e pos) (tAsg t (gName i)) (mSetM i m) := by
  refine ⟨ps_set hN hi hx ha.pe hs hf, fun w G0 H0 σ env G H B D R h => ?_⟩
  refine ha.sem w G0 H0 σ env G H B _ R (PostS.bindM R (Sub.refl _) h fun sv B1 v G1 H1 s1 o1 d1 h1 => ?_)
  exact h1 _ G1 H1 (R.setSV s1 o1 i d1) s1.exG
/-- x, y = a, b -/
def mParM (i j : Nat) (m m2 : EnvM → Bag → Res SV) : EnvM → Bag → SRes := fun env B => (m env B).s env fun sv B1 => (m2 env B1).s env fun sv2 B2 => .nx ((env.set i (some sv)).set j (some sv2)) B2
theorem sd_parM (i j : Nat) {x y : Str} {a b : Expr} {t t2 : TE} {m m2 : EnvM → Bag → Res SV} {px py pt pos : Pos} {kt k2 pt2} (hc : X.calm = true) (hN : X.N.Nodup) (ha : MD X W a t m) (hb : MD X W b t2 m2) (hi : X.N[i]? = some x := by rfl) (hj : X.N[j]? = some y := by rfl) (hij : i ≠ j := by decide)
    (hx : X.env.scope.names.lookup x = some .local := by rfl) (hy : X.env.scope.names.lookup y = some .local := by rfl)
    (hs1 : starEach [a, b] X.env = (false, eval a X.env) :: starEach [b] X.env := by rfl) (hs2 : starEach [b] X.env = (false, eval b X.env) :: starEach [] X.env := by rfl)
    (hw : swappedStores [.Tuple [.Name x px, .Name y py] kt pt] (.Tuple [a, b] k2 pt2) X.env = pure (some [x, y]) := by rfl)
    (hs : swapsWithSole [.Tuple [.Name x px, .Name y py] kt pt] (.Tuple [a, b] k2 pt2) pos.line X.env = pure false := by rfl) :
    SD X W (.Assign [.Tuple [.Name x px, .Name y py] kt pt] (.Tuple [a, b] k2 pt2) pos) (tPar i j (tCons t (tCons t2 tNil))) (mParM i j m m2) := by
  refine ⟨ps_par hc hN hi hj hij hx hy (pa_cons ha.pe (pa_cons hb.pe pa_nil hs2) hs1) hw hs, fun w G0 H0 σ env G H B D R h => ?_⟩
  refine ha.sem w G0 H0 σ env G H B _ R (PostS.bindM R (Sub.refl _) h fun sv B1 v G1 H1 s1 o1 d1 h1 => ?_)
  have R1 := R.step s1 o1
  refine hb.sem w G0 H0 σ env G1 H1 B1 _ R1 (PostS.bindM R1 s1.exG h1 fun sv2 B2 v2 G2 H2 s2 o2 d2 h2 => ?_)
  exact ⟨_, _, rfl, h2 _ G2 H2 ((R.setSV s1 o1 i d1).setSV s2 o2 j d2) (Sub.trans s1.exG s2.exG)⟩
end
end DL
set_option Elab.async false
set_option linter.all false
set_option maxRecDepth 100000
set_option maxHeartbeats 4000000
/-! DL16: x.append(y.pop(e)), x and y lists of one's own. -/
namespace DL
open PySem L2
open ZT (PT)
def popP (ys : List PD) : PD → Option (PD × List PD)
  | .int i => if 0 ≤ i ∧ i < 2 ^ 63 then (ys[i.toNat]?).map fun y => (y, ys.eraseIdx i.toNat) else none
  | _ => none
theorem popP_of {ys ys' : List PD} {d y : PD} (h : popP ys d = some (y, ys')) : ∃ i : Int, d = .int i ∧ 0 ≤ i ∧ i < 2 ^ 63 ∧ ys[i.toNat]? = some y ∧ ys' = ys.eraseIdx i.toNat := by
  unfold popP at h
  split at h
  · rename_i i
    split at h
    · rename_i q
      cases e : ys[i.toNat]? with
      | none => rw [e] at h; cases h
      | some z =>
        rw [e] at h
        cases h
        exact ⟨i, rfl, q.1, q.2, e, rfl⟩
    · cases h
  · cases h
theorem DRs.erase {K : Fg} {G : Hp} : ∀ {vs : List V} {ds : List PD} (i : Nat), DRs K G vs ds → DRs K G (vs.eraseIdx i) (ds.eraseIdx i)
  | _, _, _, .nil => .nil
  | _, _, 0, .cons _ r => r
  | _, _, i + 1, .cons h r => .cons h (DRs.erase i r)
section
variable {X : Cx} {W : WX}
def mAppPop (i j : Nat) (m : EnvM → Bag → Res PD) : EnvM → Bag → SRes := fun env B => match env[i]?, env[j]? with
  | some (some (.own xs)), some (some (.own ys)) => (m env B).s env fun d B1 => (match popP ys d with
    | some (y, ys') => if xs.length < sizeLine then .nx ((env.set j (some (.own ys'))).set i (some (.own (xs ++ [y])))) B1 else .bad
    | none => .bad)
  | _, _ => .bad
theorem sd_appPop (i j : Nat) {x y : Str} {e : Expr} {t : TE} {m : EnvM → Bag → Res PD} {p1 p2 p3 p4 pc pc2 pos : Pos} (he : ED X W e t m) (hij : i ≠ j) (hN : X.N[i]? = some x) (hN2 : X.N[j]? = some y)
    (hpe : PE X (.Call (.Attribute (.Name x p1) "append" p2) [.Call (.Attribute (.Name y p3) "pop" p4) [e] [] pc2] [] pc) (tBM X.K "list" rAppend (tVar i) (tCons (tBM X.K "list" rPopAt (tVar j) (tCons t tNil)) tNil)))
    (hs : swapsWith (.Call (.Attribute (.Name x p1) "append" p2) [.Call (.Attribute (.Name y p3) "pop" p4) [e] [] pc2] [] pc) none pos.line X.env = pure false := by rfl) :
    SD X W (.Expr (.Call (.Attribute (.Name x p1) "append" p2) [.Call (.Attribute (.Name y p3) "pop" p4) [e] [] pc2] [] pc) pos) (tDrop (tBM X.K "list" rAppend (tVar i) (tCons (tBM X.K "list" rPopAt (tVar j) (tCons t tNil)) tNil))) (mAppPop i j m) := by
  refine ⟨ps_expr hpe hs, fun w G0 H0 σ env G H B D R h => ?_⟩
  unfold mAppPop at h
  split at h
  · rename_i xs ys q q2
    obtain ⟨p, vs, h1, g, h0, nb, hp, r⟩ := own_at R q
    obtain ⟨p', vs', h1', g', h0', nb', hp', r'⟩ := own_at R q2
    refine ⟨_, h1, .inl ⟨rfl, _, SqL.of hp⟩, ?_⟩
    refine ⟨_, h1', .inl ⟨rfl, _, SqL.of hp'⟩, ?_⟩
    refine he.sem w G0 H0 σ env G H B _ R (PostS.bind R (Sub.refl _) h fun d B1 v G1 H1 s1 o1 d1 h2 => ?_)
    have R1 := R.step s1 o1
    cases e1 : popP ys d with
    | none => simp only [e1] at h2; exact h2.elim
    | some z =>
      obtain ⟨y1, ys'⟩ := z
      simp only [e1] at h2
      by_cases hl : xs.length < sizeLine
      · rw [if_pos hl] at h2
        obtain ⟨k, rfl, k0, k1, k2, rfl⟩ := popP_of e1
        have ev : v = .int k := by cases d1; rfl
        subst ev
        have r1 := r'.mono s1.exG
        obtain ⟨u, k3, k4⟩ := r1.get k2
        have hpp := s1.keep p' _ nb'.one (fun _ z => by cases z) hp'
        have klt : k < (vs'.length : Int) := by
          have := (List.getElem?_eq_some_iff.mp k3).1
          omega
        refine ⟨p', vs', k, k.toNat, u, rfl, rfl, hpp, by omega, k1, seqIndex_of k0 klt, k3, ?_⟩
        obtain ⟨_, _, z1, z2, z3, z4, z5, z6⟩ := own_at R1 q2
        rw [h1'] at z1; cases z1
        have R2 := R1.upOwn j q2 h1' hpp (r1.erase k.toNat) z2 z3 z4
        have q3 : (env.set j (some (.own (ys.eraseIdx k.toNat))))[i]? = some (some (.own xs)) := by rw [List.getElem?_set_ne (Ne.symm hij)]; exact q
        obtain ⟨_, vs2, y1', y2, y3, y4, y5, y6⟩ := own_at R2 q3
        rw [h1] at y1'; cases y1'
        refine ⟨p, vs2, u, rfl, rfl, y5, by rw [y6.length]; exact hl, ?_⟩
        exact h2 σ G1 _ (R2.upOwn i q3 h1 y5 (y6.append (.cons k4 .nil)) y2 y3 y4) s1.exG
      · rw [if_neg hl] at h2; exact h2.elim
  · exact h.elim
end
end DL
set_option Elab.async false
set_option linter.all false
set_option maxRecDepth 100000
set_option maxHeartbeats 4000000
/-! ZD: {k: v for a in .. for b in ..} (written by mkzd.py along the kit's proof for a list with two fors). -/
namespace ZD
open PySem PySem.Spec PyProof.Rows L2
theorem compTurn2d_out (kx vx t0 i0 t1 i1 : Expr) (ifs0 ifs1 : List Expr) (scope : Scope) (pos : Pos) (it : Value) (D : Addr) (env : Env) :
    compTurn (.DictComp kx vx [⟨t0, i0, ifs0, 0⟩, ⟨t1, i1, ifs1, 0⟩] scope pos) 0 it (.ref D) env = (do
      standAt i0.pos
      match ← pyNext it with
      | none => pure (.done .next)
      | some v =>
        letOwnedTupleGo t0 it v
        assign t0 env v
        let mut ok := true
        for c in ifs0 do
          if ok then ok ← isTrue c env (eval c env)
        if ok then
          let x ← eval i1 env
          standAt i1.pos
          let x ← foldedSetIterable i1 env x
          let _ ← runOwn (.compStart (.DictComp kx vx [⟨t0, i0, ifs0, 0⟩, ⟨t1, i1, ifs1, 0⟩] scope pos) 1 (← holding [x] (pyIter x)) (.ref D) env) env
        again (.compLoop (.DictComp kx vx [⟨t0, i0, ifs0, 0⟩, ⟨t1, i1, ifs1, 0⟩] scope pos) 0 it (.ref D) env)) := by rfl
theorem compTurn2d_in (kx vx t0 i0 t1 i1 : Expr) (ifs0 ifs1 : List Expr) (scope : Scope) (pos : Pos) (it : Value) (D : Addr) (env : Env) :
    compTurn (.DictComp kx vx [⟨t0, i0, ifs0, 0⟩, ⟨t1, i1, ifs1, 0⟩] scope pos) 1 it (.ref D) env = (do
      standAt i1.pos
      match ← pyNext it with
      | none => pure (.done .next)
      | some v =>
        letOwnedTupleGo t1 it v
        assign t1 env v
        let mut ok := true
        for c in ifs1 do
          if ok then ok ← isTrue c env (eval c env)
        if ok then
          (do
            let kv ← eval kx env
            let vv ← holding [kv] (eval vx env)
            standAt { kx.pos with endLine := vx.pos.endLine, endCol := vx.pos.endCol }
            holding [kv, vv] (dictSet D kv vv))
        again (.compLoop (.DictComp kx vx [⟨t0, i0, ifs0, 0⟩, ⟨t1, i1, ifs1, 0⟩] scope pos) 1 it (.ref D) env)) := by rfl

section
variable {prog : Program} {w : World} {A : Around} {R : Result → Shared → Prop} {s : Shared} {kx vx t0 i0 t1 i1 : Expr} {ifs0 ifs1 : List Expr} {scope : Scope} {pos : Pos} {it : Value} {D : Addr} {env : Env}
/-- the loop of the first clause -/
theorem compLoop2d_out (hs : ∀ x, foldedSetIterable i1 env x = pure x) (I : Nat → Shared → Prop)
    (turn : ∀ n s, I n s → wpAny (model prog w) A (pyNext it) (fun r s₁ => match r with
      | none => R (.ok .next) s₁
      | some v => wpAny (model prog w) A (letOwnedTupleGo t0 it v) (fun _ s₁' => wpAny (model prog w) A (assign t0 env v) (fun _ s₂ =>
          wpAny (model prog w) A (forIn ifs0 true fun c r => if r = true then do let ok ← isTrue c env (eval c env); pure (ForInStep.yield ok) else pure (ForInStep.yield r)) (fun ok s₃ =>
            if ok = true then wpAny (model prog w) A (eval i1 env) (fun x s₄ => wpAny (model prog w) A (pyIter x) (fun it1 s₅ =>
              codeAny (model prog w) A (.compStart (.DictComp kx vx [⟨t0, i0, ifs0, 0⟩, ⟨t1, i1, ifs1, 0⟩] scope pos) 1 it1 (.ref D) env) (fun r s' => match r with
                | .ok _ => ∃ m, m < n ∧ I m s'
                | .error _ => False) s₅) (notedBy (model prog w) A env fun e s' => R (.error e) s') s₄) (notedBy (model prog w) A env fun e s' => R (.error e) s') s₃
            else ∃ m, m < n ∧ I m s₃) (notedBy (model prog w) A env fun e s' => R (.error e) s') s₂) (notedBy (model prog w) A env fun e s' => R (.error e) s') s₁') (notedBy (model prog w) A env fun e s' => R (.error e) s') s₁) (notedBy (model prog w) A env fun e s' => R (.error e) s') s)
    (n : Nat) (h : I n s) :
    codeAny (model prog w) A (.compLoop (.DictComp kx vx [⟨t0, i0, ifs0, 0⟩, ⟨t1, i1, ifs1, 0⟩] scope pos) 0 it (.ref D) env) R s := by
  refine codeAny_loop rfl I (fun n s hI => ?_) n h
  show wpAny _ A ((compTurn (.DictComp kx vx [⟨t0, i0, ifs0, 0⟩, ⟨t1, i1, ifs1, 0⟩] scope pos) 0 it (.ref D) env).onRaise (fun x => do noteFrame x env; theTreesLotGoes x)) _ _ s
  refine wpAny_noted ?_
  rw [compTurn2d_out]
  refine wpAny_bind (wpAny_standAt (wpAny_bind (wpAny_mono (turn n s hI) (fun r s₁ h₁ => ?_) fun _ _ h' => h')))
  cases r with
  | none => exact wpAny_pure h₁
  | some v =>
    refine wpAny_bind (wpAny_mono h₁ (fun _ s₁' h₁' => ?_) fun _ _ h' => h')
    refine wpAny_bind (wpAny_mono h₁' (fun _ s₂ h₂ => wpAny_bind (wpAny_mono h₂ (fun ok s₃ h₃ => ?_) fun _ _ h' => h')) fun _ _ h' => h')
    cases ok with
    | false => exact wpAny_pure ⟨rfl, h₃⟩
    | true =>
      refine wpAny_bind (wpAny_mono h₃ (fun x s₄ h₄ => ?_) fun _ _ h' => h')
      refine wpAny_bind (wpAny_standAt (wpAny_bind (wpAny_of_eq (hs x) (wpAny_bind (wpAny_holding (wpAny_mono h₄ (fun it1 s₅ h₅ => ?_) fun _ _ h' => h'))))))
      refine wpAny_bind (wpAny_runOwn ?_)
      rw [Around.mark_none]
      refine codeAny_mono h₅ fun r s' hr => ?_
      cases r with
      | ok f =>
        first
          | exact wpAny_pure ⟨rfl, hr⟩
          | exact wpAny_bind (wpAny_pure (wpAny_pure ⟨rfl, hr⟩))
      | error e => exact hr.elim
/-- the loop of the second -/
theorem compLoop2d_in (I : Nat → Shared → Prop)
    (turn : ∀ n s, I n s → wpAny (model prog w) A (pyNext it) (fun r s₁ => match r with
      | none => R (.ok .next) s₁
      | some v => wpAny (model prog w) A (letOwnedTupleGo t1 it v) (fun _ s₁' => wpAny (model prog w) A (assign t1 env v) (fun _ s₂ =>
          wpAny (model prog w) A (forIn ifs1 true fun c r => if r = true then do let ok ← isTrue c env (eval c env); pure (ForInStep.yield ok) else pure (ForInStep.yield r)) (fun ok s₃ =>
            if ok = true then wpAny (model prog w) A (eval kx env) (fun kv s₄ => wpAny (model prog w) A (eval vx env) (fun vv s₅ =>
              wpAny (model prog w) A (dictSet D kv vv) (fun _ s₆ => ∃ m, m < n ∧ I m s₆) (notedBy (model prog w) A env fun e s' => R (.error e) s') s₅) (notedBy (model prog w) A env fun e s' => R (.error e) s') s₄) (notedBy (model prog w) A env fun e s' => R (.error e) s') s₃
            else ∃ m, m < n ∧ I m s₃) (notedBy (model prog w) A env fun e s' => R (.error e) s') s₂) (notedBy (model prog w) A env fun e s' => R (.error e) s') s₁') (notedBy (model prog w) A env fun e s' => R (.error e) s') s₁) (notedBy (model prog w) A env fun e s' => R (.error e) s') s)
    (n : Nat) (h : I n s) :
    codeAny (model prog w) A (.compLoop (.DictComp kx vx [⟨t0, i0, ifs0, 0⟩, ⟨t1, i1, ifs1, 0⟩] scope pos) 1 it (.ref D) env) R s := by
  refine codeAny_loop rfl I (fun n s hI => ?_) n h
  show wpAny _ A ((compTurn (.DictComp kx vx [⟨t0, i0, ifs0, 0⟩, ⟨t1, i1, ifs1, 0⟩] scope pos) 1 it (.ref D) env).onRaise (fun x => do noteFrame x env; theTreesLotGoes x)) _ _ s
  refine wpAny_noted ?_
  rw [compTurn2d_in]
  refine wpAny_bind (wpAny_standAt (wpAny_bind (wpAny_mono (turn n s hI) (fun r s₁ h₁ => ?_) fun _ _ h' => h')))
  cases r with
  | none => exact wpAny_pure h₁
  | some v =>
    refine wpAny_bind (wpAny_mono h₁ (fun _ s₁' h₁' => ?_) fun _ _ h' => h')
    refine wpAny_bind (wpAny_mono h₁' (fun _ s₂ h₂ => wpAny_bind (wpAny_mono h₂ (fun ok s₃ h₃ => ?_) fun _ _ h' => h')) fun _ _ h' => h')
    cases ok with
    | false => exact wpAny_pure ⟨rfl, h₃⟩
    | true =>
      exact wpAny_bind (wpAny_bind (wpAny_mono h₃ (fun kv s₄ h₄ => wpAny_bind (wpAny_holding (wpAny_mono h₄ (fun vv s₅ h₅ => wpAny_bind (wpAny_standAt (wpAny_holding (wpAny_mono h₅ (fun _ s₆ h₆ => wpAny_pure ⟨rfl, h₆⟩) fun _ _ h' => h')))) fun _ _ h' => h'))) fun _ _ h' => h'))
/-- the second clause's start -/
theorem compStart1d_ok (h0 : codeAny (model prog w) A (.compLoop (.DictComp kx vx [⟨t0, i0, ifs0, 0⟩, ⟨t1, i1, ifs1, 0⟩] scope pos) 1 it (.ref D) env) R s)
    (h : wpAny (model prog w) A (pyIter it) (fun it' s' => codeAny (model prog w) A (.compLoop (.DictComp kx vx [⟨t0, i0, ifs0, 0⟩, ⟨t1, i1, ifs1, 0⟩] scope pos) 1 it' (.ref D) env) R s')
      (notedBy (model prog w) A env fun x s' => R (.error x) s') s) :
    codeAny (model prog w) A (.compStart (.DictComp kx vx [⟨t0, i0, ifs0, 0⟩, ⟨t1, i1, ifs1, 0⟩] scope pos) 1 it (.ref D) env) R s := by
  refine codeAny_of_tree ?_
  show wpAny _ _ ((compStart (.DictComp kx vx [⟨t0, i0, ifs0, 0⟩, ⟨t1, i1, ifs1, 0⟩] scope pos) 1 it (.ref D) env).onRaise (fun x => do noteFrame x env; standAt theWindowsPlace)) _ _ s
  refine wpAny_notedAt ?_
  unfold compStart
  show wpAny _ _ (ask >>= _) _ _ s
  refine wpAny_bind (wpAny_askSetting (wpAny_ite ?_))
  split
  · first
      | exact wpAny_bind (wpAny_pure (wpAny_pure (And.intro rfl h0)))
      | exact wpAny_pure (And.intro rfl h0)
  · first
      | exact wpAny_bind (wpAny_rule (wpAny_bind (wpAny_standAt (wpAny_bind (wpAny_mono h (fun it' s' h' => wpAny_pure (And.intro rfl h')) fun _ _ x => x)))))
      | (refine wpAny_bind (wpAny_rule ?_); show wpAny _ _ (standAt i1.pos >>= _) _ _ s; exact wpAny_bind (wpAny_standAt (wpAny_bind (wpAny_mono h (fun it' s' h' => wpAny_pure (And.intro rfl h')) fun _ _ x => x))))
end

section
variable {X : Cx}
/-- [elt for tg in iter if .. for tg1 in iter1 if ..]: behind the first clause's store and tests the second source's own loop, from which Nx is reached. vs: the block's names; vs1: those of the second target -/
def tDc2 (wi : TI) (g : TG) (tt : TT) (wi1 : TI) (g1 : TG) (tt1 : TT) (tk tv : TE) (vs vs1 : List Nat) : TE := fun σ H Q => wi σ H fun J H1 => ∀ D, H1 D = none → ∃ W : Nat → Nat → Hp → Prop, (∃ m, W 0 m (upd H1 D (.dK []))) ∧ ∀ i m H, W i m H →
  (J.stop i H ∧ Q (.ref D) H) ∨ (J.go i H ∧ ∃ Nx : Hp → Prop, (∀ H', Nx H' → ∃ m', m' < m ∧ W (i + 1) m' H') ∧ ∀ x H', J.yld i H x H' → g x (wipe σ vs) H' fun σ2 H2 => wipe σ2 vs = wipe σ vs ∧ tt σ2 H2 fun b H3 =>
    if b = true then wi1 σ2 H3 fun J1 H4 => ∃ W1 : Nat → Nat → Hp → Prop, (∃ m, W1 0 m H4) ∧ ∀ j k H, W1 j k H →
      (J1.stop j H ∧ Nx H) ∨ (J1.go j H ∧ ∃ Nx1 : Hp → Prop, (∀ H', Nx1 H' → ∃ k', k' < k ∧ W1 (j + 1) k' H') ∧ ∀ x H', J1.yld j H x H' → g1 x (wipe σ2 vs1) H' fun σ3 H5 => wipe σ3 vs1 = wipe σ2 vs1 ∧ tt1 σ3 H5 fun b H6 =>
        if b = true then tk σ3 H6 fun y H7 => tv σ3 H7 fun z H8 => ∃ kvs k, y = kV k ∧ H8 D = some (.dK kvs) ∧ kvs.length < sizeLine ∧ Nx1 (upd H8 D (.dK (putK kvs k z))) else Nx1 H6)
    else Nx H3)
theorem dc2_core {pins : List (Addr × Obj)} {s : Shared} {σ : L2.St} {H : Hp} {Q : VK} {kx vx tg iter tg1 iter1 : Expr} {ifs ifs1 : List Expr} {scope : Scope} {own : List (Str × Nat)} {vs1 : List Nat} {pos pos' : Pos} {wi wi1 : TI} {g g1 : TG} {tt tt1 : TT} {tk tv : TE} {use : Option (Value → Sem Unit)} {Qf : Value → Shared → Prop}
    (hc : X.calm = true) (hN : X.N.Nodup) (I : Inv X pins σ H s) (hi : PI X tg iter wi) (ok : BlkOk X.N X.env.scope scope own) (hv : ∀ i ∈ vs1, i ∈ own.map (·.2))
    (hg : ∀ (s : Shared) (H : Hp) (C : Addr) (cl : List (Str × Addr)) (fp : List Addr), PG (X.blk s H scope (compEnvC scope cl C X.env) fp) tg g) (ht : ∀ (s : Shared) (H : Hp) (C : Addr) (cl : List (Str × Addr)) (fp : List Addr), PTs (X.blk s H scope (compEnvC scope cl C X.env) fp) ifs tt)
    (hk : ∀ (s : Shared) (H : Hp) (C : Addr) (cl : List (Str × Addr)) (fp : List Addr), PE (X.blk s H scope (compEnvC scope cl C X.env) fp) kx tk) (he : ∀ (s : Shared) (H : Hp) (C : Addr) (cl : List (Str × Addr)) (fp : List Addr), PE (X.blk s H scope (compEnvC scope cl C X.env) fp) vx tv) (hs : ∀ x, foldedSetIterable iter X.env x = pure x)
    (hi1 : ∀ (s : Shared) (H : Hp) (C : Addr) (cl : List (Str × Addr)) (fp : List Addr), PI (X.blk s H scope (compEnvC scope cl C X.env) fp) tg1 iter1 wi1)
    (hg1 : ∀ (s : Shared) (H : Hp) (C : Addr) (cl : List (Str × Addr)) (fp : List Addr), PG (X.blk s H scope (compEnvC scope cl C X.env) fp) tg1 g1)
    (ht1 : ∀ (s : Shared) (H : Hp) (C : Addr) (cl : List (Str × Addr)) (fp : List Addr), PTs (X.blk s H scope (compEnvC scope cl C X.env) fp) ifs1 tt1)
    (hs1 : ∀ env x, foldedSetIterable iter1 env x = pure x)
    (h : tDc2 wi g tt wi1 g1 tt1 tk tv (own.map (·.2)) vs1 σ H Q)
    (hRR : ∀ D C s' m H', Inv X pins σ H' s' → Q (.ref D) H' → s'.heap.Ns C m → FpOk X pins H' C → compPost (model X.prog X.w) X.A X.xe use Qf (.ref D) C (.ok .next) s') :
    wpAny (model X.prog X.w) X.A (comprehension (.DictComp kx vx [⟨tg, iter, ifs, 0⟩, ⟨tg1, iter1, ifs1, 0⟩] scope pos) scope X.env pos' newDict false (eval iter X.env) use) Qf X.xe s := by
  have hfree : ∀ y ∈ scope.names, y.2 = .free → ∃ c, X.env.cells.lookup y.1 = some c := fun y hy e => by
    rcases ok.free y hy e with k | k
    · exact I.ok.has _ (.inl k)
    · exact I.ok.has _ (.inr k)
  refine wpAny_comprehension_free (use := use) rfl hs (closure_ok hfree) ok.kind (fun y hy e => by rw [ok.uniq y hy, e])
    (thn (hi.run pins s σ H _ I h) fun xv s1 hx => thn hx fun itv s2 h2 => ?_)
  obtain ⟨it, fp, tn, J, H2, e, I2, T, st2, f2, q⟩ := h2
  subst e
  refine wpAny_newObj_type (newEnv_comp ?_)
  generalize hD : s2.heap.objs.size = D
  have hDn : H2 D = none := I2.hok.fresh (Nat.le_of_eq hD)
  obtain ⟨W, ⟨m0, w0⟩, turn⟩ := q D hDn
  -- the new list
  generalize hs3 : ({ s2 with heap := s2.heap.push { cls := .type "dict", data := .dict #[] } } : Shared) = s3
  have I3 : Inv X pins σ (upd H2 D (.dK [])) s3 := by
    rw [← hs3]
    refine I2.laid (t' := s2.toks) (fun b o e => Heap.get?_push_of_some _ e) (Nat.le_of_eq hD) ?_
    rw [← hD]
    exact dk_empty s2.heap I2.big
  have h3 : s3.heap = s2.heap.push { cls := .type "dict", data := .dict #[] } := by rw [← hs3]
  have sz : ∀ b ∈ fp, b < s2.heap.objs.size := fun b hb => by
    obtain ⟨o, e, _⟩ := T.obj _ _ st2 b hb
    exact Heap.lt_size e
  have f3 : ∀ b ∈ fp, FpOk X pins (upd H2 D (.dK [])) b ∧ b < s3.heap.objs.size := fun b hb => by
    have hlt := sz b hb
    refine ⟨⟨?_, (f2 b hb).2⟩, by rw [h3, Heap.size_push]; exact Nat.lt_succ_of_lt hlt⟩
    rw [upd_ne (by rw [← hD]; exact Nat.ne_of_lt hlt)]
    exact (f2 b hb).1
  have st3 : tn 0 s3.heap := T.keep _ _ _ st2 fun b _ o e => by rw [h3]; exact Heap.get?_push_of_some _ e
  have I4 := block_start I3 ok hN f3
  have pg := hg s3 (upd H2 D (.dK [])) s3.heap.objs.size (cellsFrom (s3.heap.objs.size + 1) scope.names (cloFrom X.env.cells scope.names [])) fp
  have pt := ht s3 (upd H2 D (.dK [])) s3.heap.objs.size (cellsFrom (s3.heap.objs.size + 1) scope.names (cloFrom X.env.cells scope.names [])) fp
  have pk := hk s3 (upd H2 D (.dK [])) s3.heap.objs.size (cellsFrom (s3.heap.objs.size + 1) scope.names (cloFrom X.env.cells scope.names [])) fp
  have pe := he s3 (upd H2 D (.dK [])) s3.heap.objs.size (cellsFrom (s3.heap.objs.size + 1) scope.names (cloFrom X.env.cells scope.names [])) fp
  have pi1 := hi1 s3 (upd H2 D (.dK [])) s3.heap.objs.size (cellsFrom (s3.heap.objs.size + 1) scope.names (cloFrom X.env.cells scope.names [])) fp
  have pg1 := hg1 s3 (upd H2 D (.dK [])) s3.heap.objs.size (cellsFrom (s3.heap.objs.size + 1) scope.names (cloFrom X.env.cells scope.names [])) fp
  have pt1 := ht1 s3 (upd H2 D (.dK [])) s3.heap.objs.size (cellsFrom (s3.heap.objs.size + 1) scope.names (cloFrom X.env.cells scope.names [])) fp
  show codeAny _ _ (.compStart (.DictComp kx vx [⟨tg, iter, ifs, 0⟩, ⟨tg1, iter1, ifs1, 0⟩] scope pos) 0 (.ref it) (.ref D) (compEnvC scope (cellsFrom (s3.heap.objs.size + 1) scope.names (cloFrom X.env.cells scope.names [])) s3.heap.objs.size X.env)) (compPost (model X.prog X.w) X.A X.xe use Qf (.ref D) s3.heap.objs.size) { s3 with heap := pushCells (s3.heap.push { cls := .type "dict", data := .dict #[] }) scope.names }
  have nfp : ∀ b ∈ fp, (upd H2 D (.dK [])) b = none := fun b hb => (f3 b hb).1.1
  generalize hce : compEnvC scope (cellsFrom (s3.heap.objs.size + 1) scope.names (cloFrom X.env.cells scope.names [])) s3.heap.objs.size X.env = ce at I4 pg pt pk pe pi1 pg1 pt1 ⊢
  have cL : ce.locals = s3.heap.objs.size := by subst hce; rfl
  generalize hH3 : upd H2 D (.dK []) = H3 at I3 I4 pg pt pk pe pi1 pg1 pt1 w0 nfp f3
  generalize hs4 : ({ s3 with heap := pushCells (s3.heap.push { cls := .type "dict", data := .dict #[] }) scope.names } : Shared) = s4 at I4 ⊢
  have st4 : tn 0 s4.heap := T.keep _ _ _ st3 fun b _ o e => by rw [← hs4]; exact pushCells_keeps _ _ _ _ (Heap.get?_push_of_some _ e)
  have stat : ∀ {σ' : L2.St} {H' : Hp} {s' : Shared}, Inv (X.blk s3 H3 scope ce fp) [] σ' H' s' → (∀ b ∈ fp, H' b = none) → ∀ b ∈ fp, FpOk (X.blk s3 H3 scope ce fp) [] H' b := fun {σ' H' s'} I' hn b hb =>
    ⟨hn b hb, (I'.ok.exf b hb).1, I'.ok.exfs b hb, .inl hb, fun x c e => (I'.ok.exf b hb).2 x c e, fun p hp => absurd (show p ∈ ([] : List (Addr × Obj)) ++ [] from hp) (by simp)⟩
  have loop : codeAny (model X.prog X.w) X.A (.compLoop (.DictComp kx vx [⟨tg, iter, ifs, 0⟩, ⟨tg1, iter1, ifs1, 0⟩] scope pos) 0 (.ref it) (.ref D) ce) (compPost (model X.prog X.w) X.A X.xe use Qf (.ref D) s3.heap.objs.size) s4 := by
    refine compLoop2d_out (hs1 ce) (fun n s' => ∃ i H', Inv (X.blk s3 H3 scope ce fp) [] (wipe σ (own.map (·.2))) H' s' ∧ tn i s'.heap ∧ (∀ b ∈ fp, H' b = none) ∧ W i n H') ?_ m0 ⟨0, H3, I4, st4, nfp, w0⟩
    rintro n s5 ⟨i, H5, I5, st5, n5, w5⟩
    rcases turn i n H5 w5 with ⟨stop, qq⟩ | ⟨go, Nx, hNx, step⟩
    · have td := T.done (X.blk s3 H3 scope ce fp) rfl rfl rfl hc i [] s5 _ H5 (fun _ _ => False) I5 (stat I5 n5) st5 stop
      refine thnF td fun r s6 ⟨hr, I6⟩ => ?_
      subst hr
      -- back in the def's context
      have I7 : Inv X pins σ H5 s6 := I3.call' (ch := fp) I6.os I6.base I6.hok I6.bare fun b hb => ⟨(f3 b hb).1.2.2.2.1, (f3 b hb).1.2.1, (f3 b hb).1.2.2.2.2.1, (f3 b hb).1.2.2.2.2.2⟩
      have nC : H5 s3.heap.objs.size = none := by
        have z : H5 ce.locals = none := I6.free
        rw [cL] at z
        exact z
      obtain ⟨m, hn, _⟩ := I6.loc
      have hn : s6.heap.Ns ce.locals m := hn
      rw [cL] at hn
      exact hRR D s3.heap.objs.size s6 m H5 I7 qq hn (I3.fpOk (Nat.le_refl _) nC)
    · have ti := T.item (X.blk s3 H3 scope ce fp) rfl rfl rfl hc i [] s5 _ H5 (fun _ _ => False) I5 (stat I5 n5) st5 go
      refine thnF ti fun r s6 ⟨u, hr, h6⟩ => ?_
      subst hr
      refine thnF h6 fun _ s7 ⟨x, H7, I7, r7, y7, st7, n7⟩ => ?_
      have I7' := I7.pinned (stat I7 n7) (T.obj _ _ st7)
      refine thnF (pg.run _ s7 _ H7 x u _ I7' r7 (step x H7 y7)) fun _ s8 ⟨σ8, H8, I8, hw8, q8⟩ => ?_
      refine thnF (pt.run _ s8 σ8 H8 _ I8 q8) fun b s9 ⟨H9, I9, q9⟩ => ?_
      -- the turn's end, from any slots that know what the block knew at its start
      have fin : ∀ {σ9 : L2.St} {s' : Shared} {H' : Hp}, Inv (X.blk s3 H3 scope ce fp) ([] ++ pinsAt fp s7.heap) σ9 H' s' → (wipe σ (own.map (·.2))).length = σ9.length → (∀ (j : Nat) v, (wipe σ (own.map (·.2)))[j]? = some (some v) → σ9[j]? = some (some v)) → Nx H' →
          ∃ m, m < n ∧ ∃ i H', Inv (X.blk s3 H3 scope ce fp) [] (wipe σ (own.map (·.2))) H' s' ∧ tn i s'.heap ∧ (∀ b ∈ fp, H' b = none) ∧ W i m H' := fun {σ9 s' H'} I' hl hk nx => by
        obtain ⟨m', hm, w'⟩ := hNx H' nx
        have pin' : ∀ b ∈ fp, ∀ o, s7.heap.get? b = some o → s'.heap.get? b = some o ∧ H' b = none := fun b hb o e =>
          let z := I'.pin (b, o) (List.mem_append_right _ (List.mem_append_right _ (mem_pinsAt hb e)))
          ⟨z.1, z.2.1⟩
        refine ⟨m', hm, i + 1, H', (I'.unpinned (pins := [])).weak hl hk, T.keep _ _ _ st7 fun b hb o e => (pin' b hb o e).1, fun b hb => ?_, w'⟩
        obtain ⟨o, e, _⟩ := T.obj _ _ st7 b hb
        exact (pin' b hb o e).2
      have hl8 : (wipe σ (own.map (·.2))).length = σ8.length := by rw [← hw8, wipe_length]
      have hk8 : ∀ (j : Nat) v, (wipe σ (own.map (·.2)))[j]? = some (some v) → σ8[j]? = some (some v) := fun j v e => by
        rw [← hw8] at e
        exact (wipe_some e).1
      have hk9 : ∀ (j : Nat) v, (wipe σ (own.map (·.2)))[j]? = some (some v) → (wipe σ8 vs1)[j]? = some (some v) := fun j v e => by
        rw [← hw8] at e
        obtain ⟨e1, e2⟩ := wipe_some e
        rw [wipe_out fun z => e2 (hv j z)]
        exact e1
      cases b with
      | false =>
        simp only [Bool.false_eq_true, if_false] at q9 ⊢
        exact fin I9 hl8 hk8 q9
      | true =>
        simp only [if_true] at q9 ⊢
        refine thnF (pi1.run _ s9 σ8 H9 _ I9 q9) fun xv s10 hx => thnF hx fun itv s11 h11 => ?_
        obtain ⟨it1, fp1, tn1, J1, H11, e1, I11, T1, st11, f11, W1, ⟨m1, w1⟩, turn1⟩ := h11
        subst e1
        -- the inner loop
        have stat1 : ∀ {H' : Hp}, (∀ b ∈ fp1, H' b = none) → ∀ b ∈ fp1, FpOk (X.blk s3 H3 scope ce fp) ([] ++ pinsAt fp s7.heap) H' b := fun hn b hb => ⟨hn b hb, (f11 b hb).2⟩
        have loop1 : codeAny (model X.prog X.w) X.A (.compLoop (.DictComp kx vx [⟨tg, iter, ifs, 0⟩, ⟨tg1, iter1, ifs1, 0⟩] scope pos) 1 (.ref it1) (.ref D) ce)
            (fun r s' => match r with
              | .ok _ => ∃ m, m < n ∧ ∃ i H', Inv (X.blk s3 H3 scope ce fp) [] (wipe σ (own.map (·.2))) H' s' ∧ tn i s'.heap ∧ (∀ b ∈ fp, H' b = none) ∧ W i m H'
              | .error _ => False) s11 := by
          refine compLoop2d_in (fun k s' => ∃ j H', Inv (X.blk s3 H3 scope ce fp) ([] ++ pinsAt fp s7.heap) (wipe σ8 vs1) H' s' ∧ tn1 j s'.heap ∧ (∀ b ∈ fp1, H' b = none) ∧ W1 j k H') ?_ m1 ⟨0, H11, I11.weak (wipe_length _ _) (fun j v e => (wipe_some e).1), st11, fun b hb => (f11 b hb).1, w1⟩
          rintro k s12 ⟨j, H12, I12, st12, n12, w12⟩
          rcases turn1 j k H12 w12 with ⟨stop1, nx1⟩ | ⟨go1, Nx1, hNx1, step1⟩
          · refine thnF (T1.done (X.blk s3 H3 scope ce fp) rfl rfl rfl hc j _ s12 (wipe σ8 vs1) H12 (fun _ _ => False) I12 (stat1 n12) st12 stop1) fun r s13 ⟨hr, I13⟩ => ?_
            subst hr
            exact fin I13 (hl8.trans (wipe_length σ8 vs1).symm) hk9 nx1
          · refine thnF (T1.item (X.blk s3 H3 scope ce fp) rfl rfl rfl hc j _ s12 (wipe σ8 vs1) H12 (fun _ _ => False) I12 (stat1 n12) st12 go1) fun r s13 ⟨u1, hr, h13⟩ => ?_
            subst hr
            refine thnF h13 fun _ s14 ⟨x1, H14, I14, r14, y14, st14, n14⟩ => ?_
            have I14' := I14.pinned (stat1 n14) (T1.obj _ _ st14)
            refine thnF (pg1.run _ s14 (wipe σ8 vs1) H14 x1 u1 _ I14' r14 (step1 x1 H14 y14)) fun _ s15 ⟨σ15, H15, I15, hw15, q15⟩ => ?_
            refine thnF (pt1.run _ s15 σ15 H15 _ I15 q15) fun b1 s16 ⟨H16, I16, q16⟩ => ?_
            have fin1 : ∀ {s' : Shared} {H' : Hp}, Inv (X.blk s3 H3 scope ce fp) (([] ++ pinsAt fp s7.heap) ++ pinsAt fp1 s14.heap) σ15 H' s' → Nx1 H' → ∃ m, m < k ∧ ∃ j H', Inv (X.blk s3 H3 scope ce fp) ([] ++ pinsAt fp s7.heap) (wipe σ8 vs1) H' s' ∧ tn1 j s'.heap ∧ (∀ b ∈ fp1, H' b = none) ∧ W1 j m H' := fun {s' H'} I' nx => by
              obtain ⟨m', hm, w'⟩ := hNx1 H' nx
              have pin' : ∀ b ∈ fp1, ∀ o, s14.heap.get? b = some o → s'.heap.get? b = some o ∧ H' b = none := fun b hb o e =>
                let z := I'.pin (b, o) (List.mem_append_right _ (List.mem_append_right _ (mem_pinsAt hb e)))
                ⟨z.1, z.2.1⟩
              refine ⟨m', hm, j + 1, H', I'.unpinned.weak (by rw [← hw15, wipe_length]) (fun j v e => by rw [← hw15] at e; exact (wipe_some e).1), T1.keep _ _ _ st14 fun b hb o e => (pin' b hb o e).1, fun b hb => ?_, w'⟩
              obtain ⟨o, e, _⟩ := T1.obj _ _ st14 b hb
              exact (pin' b hb o e).2
            cases b1 with
            | false =>
              simp only [Bool.false_eq_true, if_false] at q16 ⊢
              exact fin1 I16 q16
            | true =>
              simp only [if_true] at q16 ⊢
              refine thnF (pk.run _ s16 σ15 H16 _ I16 q16) fun z s17 ⟨yk, H17, I17, r17, q17⟩ => ?_
              refine thnF (pe.run _ s17 σ15 H17 _ I17 q17) fun z2 s18 ⟨yv, H18, I18, r18, kvs, k2, ek, hD18, hz18, nx⟩ => ?_
              subst ek
              exact d_dictSet (X := X.blk s3 H3 scope ce fp) I18 hD18 hz18 r17 r18 fun s19 I19 => fin1 I19 nx
        exact compStart1d_ok loop1 (T1.self X.A 0 _ _ _ st11 loop1)
  exact codeAny_compStart_dict loop (T.self X.A 0 _ _ _ st4 loop)
/-- as a value -/
theorem pe_dc2 {kx vx tg iter tg1 iter1 : Expr} {ifs ifs1 : List Expr} {scope : Scope} {own : List (Str × Nat)} {vs1 : List Nat} {pos : Pos} {wi wi1 : TI} {g g1 : TG} {tt tt1 : TT} {tk tv : TE} (hc : X.calm = true) (hN : X.N.Nodup) (hi : PI X tg iter wi) (ok : BlkOk X.N X.env.scope scope own) (hv : ∀ i ∈ vs1, i ∈ own.map (·.2))
    (hg : ∀ (s : Shared) (H : Hp) (C : Addr) (cl : List (Str × Addr)) (fp : List Addr), PG (X.blk s H scope (compEnvC scope cl C X.env) fp) tg g) (ht : ∀ (s : Shared) (H : Hp) (C : Addr) (cl : List (Str × Addr)) (fp : List Addr), PTs (X.blk s H scope (compEnvC scope cl C X.env) fp) ifs tt)
    (hi1 : ∀ (s : Shared) (H : Hp) (C : Addr) (cl : List (Str × Addr)) (fp : List Addr), PI (X.blk s H scope (compEnvC scope cl C X.env) fp) tg1 iter1 wi1)
    (hg1 : ∀ (s : Shared) (H : Hp) (C : Addr) (cl : List (Str × Addr)) (fp : List Addr), PG (X.blk s H scope (compEnvC scope cl C X.env) fp) tg1 g1) (ht1 : ∀ (s : Shared) (H : Hp) (C : Addr) (cl : List (Str × Addr)) (fp : List Addr), PTs (X.blk s H scope (compEnvC scope cl C X.env) fp) ifs1 tt1)
    (hk : ∀ (s : Shared) (H : Hp) (C : Addr) (cl : List (Str × Addr)) (fp : List Addr), PE (X.blk s H scope (compEnvC scope cl C X.env) fp) kx tk) (he : ∀ (s : Shared) (H : Hp) (C : Addr) (cl : List (Str × Addr)) (fp : List Addr), PE (X.blk s H scope (compEnvC scope cl C X.env) fp) vx tv) (hs : ∀ x, foldedSetIterable iter X.env x = pure x := by intro _; rfl) (hs1 : ∀ env x, foldedSetIterable iter1 env x = pure x := by intro _ _; rfl) :
    PE X (.DictComp kx vx [⟨tg, iter, ifs, 0⟩, ⟨tg1, iter1, ifs1, 0⟩] scope pos) (tDc2 wi g tt wi1 g1 tt1 tk tv (own.map (·.2)) vs1) := by
  refine ⟨fun pins s σ H Q I h => ?_⟩
  rw [arm_eval_DictComp]
  refine dc2_core hc hN I hi ok hv hg ht hk he hs hi1 hg1 ht1 hs1 h fun D C s' m H' I' q hn f => ⟨m, hn, fun h'' sb => ?_⟩
  obtain ⟨f0, f1, f2, f3, f4, f5⟩ := f
  exact ⟨.ref D, H', I'.turned (t' := s'.toks) (fun b o hb e => (sb.2 b hb).trans e) f0 f1 f3 f4 f5, rfl, q⟩
end
end ZD
set_option Elab.async false
set_option linter.all false
set_option maxRecDepth 100000
set_option maxHeartbeats 4000000
/-! DL17: dict comprehensions of one or two fors. -/
namespace DL
open PySem L2
open ZT (PT)
/-- a new object D that no slot holds; it may change -/
theorem Rel.guardNew {K : Fg} {w : Wd} {G0 H0 : Hp} {σ : L2.St} {env : EnvM} {G H : Hp} {B : Bag} {D : Addr} {o : HO} (R : Rel K w G0 H0 σ env G H B) (hD : H D = none) (nt' : ∀ ps, o ≠ .tbl ps := by intro _ z; cases z) : Rel K w G0 (upd H0 D o) σ env G (upd H D o) B := by
  have gD := R.ok.free hD
  have ne : ∀ a u, H a = some u → a ≠ D := fun a u h => ne_of_none h hD
  refine ⟨R.ok.newH hD, ⟨R.ent.exG, fun a u h => ?_, fun a u n nt h => ?_, fun a u nt h => ?_⟩, R.len, fun i sv e => ?_, R.dist, R.wk⟩
  · rcases R.ent.fr a u h with q | q
    · exact .inl q
    · right
      rw [upd_ne (ne_of_none h gD)]; exact q
  · by_cases e : a = D
    · subst e; rw [upd_same] at h ⊢; exact h
    · rw [upd_ne e] at h ⊢; exact R.ent.keep a u n nt h
  · by_cases e : a = D
    · subst e; exact ⟨_, nt', upd_same⟩
    · rw [upd_ne e] at h ⊢; exact R.ent.there a u nt h
  · obtain ⟨v, h1, h2⟩ := R.slot i sv e
    refine ⟨v, h1, ?_⟩
    cases sv with
    | d x => exact h2
    | bag => exact h2
    | own xs =>
      obtain ⟨p, vs, e1, e2, e3, e4, e5, e6⟩ := h2
      exact ⟨p, vs, e1, e2, by rw [upd_ne (ne p _ e5)]; exact e3, e4, by rw [upd_ne (ne p _ e5)]; exact e5, e6⟩
    | ownD xs =>
      obtain ⟨p, vs, e1, e2, e3, e4, e5, e6⟩ := h2
      exact ⟨p, vs, e1, e2, by rw [upd_ne (ne p _ e5)]; exact e3, e4, by rw [upd_ne (ne p _ e5)]; exact e5, e6⟩
theorem Rel.turnD {K : Fg} {w : Wd} {G0 H0 : Hp} {σ : L2.St} {env : EnvM} {G H : Hp} {B : Bag} {D : Addr} {o o' : HO} (R : Rel K w G0 (upd H0 D o) σ env G H B) (gD : G D = none) (nD : Nb w D) (hx : ∀ q, H D ≠ some (LamX.CodeO D q)) (nt : ∀ ps, o ≠ .tbl ps := by intro _ z; cases z) (nt' : ∀ ps, o' ≠ .tbl ps := by intro _ z; cases z) : Rel K w G0 (upd H0 D o') σ env G (upd H D o') B := by
  refine ⟨R.ok.mut gD nD hx, ⟨R.ent.exG, fun a u h => ?_, fun a u n nt h => ?_, fun a u nt h => ?_⟩, R.len, fun i sv e => ?_, R.dist, R.wk⟩
  · rcases R.ent.fr a u h with q | q
    · exact .inl q
    · right
      have na : a ≠ D := ne_of_none h gD
      rw [upd_ne na] at q ⊢; exact q
  · by_cases e : a = D
    · subst e; rw [upd_same] at h ⊢; exact h
    · rw [upd_ne e] at h ⊢; exact R.ent.keep a u n nt (by rw [upd_ne e]; exact h)
  · by_cases e : a = D
    · subst e; exact ⟨_, nt', upd_same⟩
    · rw [upd_ne e] at h ⊢; exact R.ent.there a u nt (by rw [upd_ne e]; exact h)
  · obtain ⟨v, h1, h2⟩ := R.slot i sv e
    have ne : ∀ p : Addr, NN ((upd H0 D o) p) → p ≠ D := fun p h z => by
      subst z; exact h.ne upd_same nt rfl
    refine ⟨v, h1, ?_⟩
    cases sv with
    | d x => exact h2
    | bag => exact h2
    | own xs =>
      obtain ⟨p, vs, e1, e2, e3, e4, e5, e6⟩ := h2
      have np := ne p e3
      exact ⟨p, vs, e1, e2, by rw [upd_ne np] at e3 ⊢; exact e3, e4, by rw [upd_ne np]; exact e5, e6⟩
    | ownD xs =>
      obtain ⟨p, vs, e1, e2, e3, e4, e5, e6⟩ := h2
      have np := ne p e3
      exact ⟨p, vs, e1, e2, by rw [upd_ne np] at e3 ⊢; exact e3, e4, by rw [upd_ne np]; exact e5, e6⟩
def mDGo (g : PD → EnvM → Option EnvM) (c : EnvM → Bag → Res Bool) (mk mv : EnvM → Bag → Res PD) (env0 : EnvM) : List PD → List (PD × PD) → Bag → Res (List (PD × PD))
  | [], acc, B => .ok acc B
  | d :: ds, acc, B => match g d env0 with
    | none => .bad
    | some e1 => match c e1 B with
      | .ok true B1 => (match mk e1 B1 with
        | .ok kd B2 => (match mv e1 B2 with
          | .ok vd B3 => (match keyP kd with
            | some k => if acc.length < sizeLine then mDGo g c mk mv env0 ds (putP acc k vd) B3 else .bad
            | none => .bad)
          | _ => .bad)
        | _ => .bad)
      | .ok false B1 => mDGo g c mk mv env0 ds acc B1
      | _ => .bad
theorem dgo_sem {st : Bool} {Xb : Cx} {tg kx vx : Expr} {ifs : List Expr} {g : TG} {tt : TT} {tk tv : TE} {mgt : PD → EnvM → Option EnvM} {mt : EnvM → Bag → Res Bool} {mk mv : EnvM → Bag → Res PD} {js vs : List Nat} (gg : GT Xb st tg g mgt js) (tt' : TDs Xb W0 ifs tt mt) (kk : ED Xb W0 kx tk mk) (vv : ED Xb W0 vx tv mv) (hjs : ∀ j ∈ js, j ∈ vs)
    {w : Wd} {G0 H0 : Hp} {σ : L2.St} {env : EnvM} {G1 H1 : Hp} {D : Addr} {J : It} {Gw : Hp} {ds : List PD} (wk : Walks Xb.K st J Gw ds) (hD : H1 D = none) (nD : Nb w D)
    {Gs Hs : Hp} {Bs BF : Bag} {kvs0 : List (Key × V)} {acc0 accF : List (PD × PD)} (R : Rel Xb.K w G0 (upd H0 D (.dK kvs0)) σ env Gs Hs Bs) (sw : Sub Gw Gs) (s1 : Step w G1 H1 Gs Hs) (hDs : Hs D = some (.dK kvs0)) (gD : Gs D = none) (ra : DKs Xb.K Gs kvs0 acc0)
    (hres : mDGo mgt mt mk mv (wipeE env vs) ds acc0 Bs = .ok accF BF) (Fin : Hp → Prop)
    (hF : ∀ (G' H : Hp) (kvs : List (Key × V)), (∀ (σ2 : L2.St) (env2 : EnvM), Rel Xb.K w G0 (upd H0 D (.dK kvs0)) σ2 env2 Gs Hs Bs → Rel Xb.K w G0 (upd H0 D (.dK kvs)) σ2 env2 G' H BF) → Sub Gs G' → Step w G1 H1 G' H → H D = some (.dK kvs) → G' D = none → DKs Xb.K G' kvs accF → Fin H) :
    ∃ W : Nat → Nat → Hp → Prop, (∃ m, W 0 m Hs) ∧ ∀ i m H, W i m H →
      (J.stop i H ∧ Fin H) ∨ (J.go i H ∧ ∃ Nx : Hp → Prop, (∀ H', Nx H' → ∃ m', m' < m ∧ W (i + 1) m' H') ∧ ∀ x H', J.yld i H x H' → g x (wipe σ vs) H' fun σ2 H2 => wipe σ2 vs = wipe σ vs ∧ tt σ2 H2 fun b H3 =>
        if b = true then tk σ2 H3 fun y H4 => tv σ2 H4 fun z H5 => ∃ kvs k, y = kV k ∧ H5 D = some (.dK kvs) ∧ kvs.length < sizeLine ∧ Nx (upd H5 D (.dK (putK kvs k z))) else Nx H3) := by
  refine ⟨fun i m H => m = ds.length - i ∧ i ≤ ds.length ∧ ∃ G' B kvs acc, (∀ (σ2 : L2.St) (env2 : EnvM), Rel Xb.K w G0 (upd H0 D (.dK kvs0)) σ2 env2 Gs Hs Bs → Rel Xb.K w G0 (upd H0 D (.dK kvs)) σ2 env2 G' H B) ∧ Sub Gs G' ∧ Step w G1 H1 G' H ∧ H D = some (.dK kvs) ∧ G' D = none ∧ DKs Xb.K G' kvs acc ∧ mDGo mgt mt mk mv (wipeE env vs) (ds.drop i) acc B = .ok accF BF,
    ⟨ds.length, by simp, Nat.zero_le _, Gs, Bs, kvs0, acc0, fun _ _ q => q, Sub.refl _, s1, hDs, gD, ra, hres⟩, ?_⟩
  rintro i m H ⟨rfl, hin, G2, B2, kvs, acc, T2, b2, s2, hD2, g2, ra2, p2⟩
  have R2 := T2 σ env R
  by_cases hlt : i < ds.length
  · right
    have hd : ds[i]? = some ds[i] := by simp [hlt]
    rw [List.drop_eq_getElem_cons hlt] at p2
    refine ⟨wk.go i H _ (Sub.trans sw (Sub.trans b2 R2.ok.sub)) hd, fun H => ∃ G' B kvs acc, (∀ (σ2 : L2.St) (env2 : EnvM), Rel Xb.K w G0 (upd H0 D (.dK kvs0)) σ2 env2 Gs Hs Bs → Rel Xb.K w G0 (upd H0 D (.dK kvs)) σ2 env2 G' H B) ∧ Sub Gs G' ∧ Step w G1 H1 G' H ∧ H D = some (.dK kvs) ∧ G' D = none ∧ DKs Xb.K G' kvs acc ∧ mDGo mgt mt mk mv (wipeE env vs) (ds.drop (i + 1)) acc B = .ok accF BF,
      fun H' q => ⟨ds.length - (i + 1), by omega, rfl, hlt, q⟩, fun x H3 y => ?_⟩
    obtain ⟨G3, s3, o3, d3⟩ := wk.yld i w G2 H B2 x H3 _ R2.ok (Sub.trans sw b2) hd y
    have R3 := R2.step s3 o3
    have hD3 := s3.keep D _ nD.one (fun _ z => by cases z) hD2
    have g3 : G3 D = none := s3.notIn g2 hD2
    unfold mDGo at p2
    cases q : mgt ds[i] (wipeE env vs) with
    | none => rw [q] at p2; cases p2
    | some env3 =>
      rw [q] at p2
      refine gg.sem w G0 _ (wipe σ vs) (wipeE env vs) G3 H3 B2 x _ env3 _ (R3.wipe vs) d3 q fun σ4 R4 w4 => ⟨?_, ?_⟩
      · rw [w4 vs hjs]; exact wipe_wipe vs fun _ z => z
      · cases z : mt env3 B2 with
        | bad => simp only [z] at p2; cases p2
        | exc c as B4 => simp only [z] at p2; cases p2
        | ok b B4 =>
          refine tt'.sem w G0 _ σ4 env3 G3 H3 B2 _ R4 ?_
          rw [z]
          intro b' G5 H5 s5 o5 eb
          subst eb
          have R5 := R3.step s5 o5
          have hD5 := s5.keep D _ nD.one (fun _ z => by cases z) hD3
          have g5 : G5 D = none := s5.notIn g3 hD3
          have s15 := (s2.trans s3).trans s5
          have b5 := Sub.trans b2 (Sub.trans s3.exG s5.exG)
          have ra5 := (ra2.mono s3.exG).mono s5.exG
          cases b' with
          | false =>
            simp only [z] at p2
            exact ⟨G5, B4, kvs, acc, fun _ _ q => ((T2 _ _ q).step s3 o3).step s5 o5, b5, s15, hD5, g5, ra5, p2⟩
          | true =>
            simp only [z] at p2
            cases z2 : mk env3 B4 with
            | bad => simp only [z2] at p2; cases p2
            | exc c as B6 => simp only [z2] at p2; cases p2
            | ok kd B6 =>
              simp only [z2] at p2
              show tk σ4 H5 _
              refine kk.sem w G0 _ σ4 env3 G5 H5 B4 _ (R4.step s5 o5) ?_
              rw [z2]
              intro yk G6 H6 s6 o6 d6
              cases z3 : mv env3 B6 with
              | bad => simp only [z3] at p2; cases p2
              | exc c as B6 => simp only [z3] at p2; cases p2
              | ok vd B7 =>
                simp only [z3] at p2
                refine vv.sem w G0 _ σ4 env3 G6 H6 B6 _ ((R4.step s5 o5).step s6 o6) ?_
                rw [z3]
                intro yv G7 H7 s7 o7 d7
                cases z4 : keyP kd with
                | none => simp only [z4] at p2; cases p2
                | some k =>
                  simp only [z4] at p2
                  by_cases hl : acc.length < sizeLine
                  · rw [if_pos hl] at p2
                    have R7 := (R5.step s6 o6).step s7 o7
                    have g6 : G6 D = none := s6.notIn g5 hD5
                    have hD6 := s6.keep D _ nD.one (fun _ z => by cases z) hD5
                    have g7 : G7 D = none := s7.notIn g6 hD6
                    have hD7 := s7.keep D _ nD.one (fun _ z => by cases z) hD6
                    have ra7 := (ra5.mono s6.exG).mono s7.exG
                    exact ⟨kvs, k, keyV d6 z4, hD7, by rw [ra7.length]; exact hl, G7, B7, putK kvs k yv, putP acc k vd, fun _ _ q => (((((T2 _ _ q).step s3 o3).step s5 o5).step s6 o6).step s7 o7).turnD g7 nD (fun _ => by rw [hD7]; exact noCo (fun _ z => by cases z)), Sub.trans b5 (Sub.trans s6.exG s7.exG), ((s15.trans s6).trans s7).mutNew hD, upd_same, g7, ra7.put k d7, p2⟩
                  · rw [if_neg hl] at p2; cases p2
  · left
    have e : i = ds.length := by omega
    subst e
    rw [List.drop_length] at p2
    cases p2
    exact ⟨wk.stop _ H (Sub.trans sw (Sub.trans b2 R2.ok.sub)) (Nat.le_refl _), hF G2 H kvs T2 b2 s2 hD2 g2 ra2⟩
end DL
set_option Elab.async false
set_option linter.all false
set_option maxRecDepth 100000
set_option maxHeartbeats 4000000
/-! DL18: dict comprehensions as values. -/
namespace DL
open PySem L2
open ZT (PT)
section
variable {X : Cx} {W : WX}
/-- what is new becomes data -/
def mFrV (m : EnvM → Bag → Res SV) : EnvM → Bag → Res PD := fun env B => (m env B).bind fun sv B1 => match sv with
  | .d x => .ok x B1
  | .own xs => .ok (.list xs) B1
  | .ownD ds => .ok (.dict ds) B1
  | .bag => .bad
theorem ed_frV {e : Expr} {t : TE} {m : EnvM → Bag → Res SV} (h : MD X W e t m) : ED X W e t (mFrV m) := by
  refine ⟨h.pe, fun w G0 H0 σ env G H B Q R hp => h.sem w G0 H0 σ env G H B Q R ?_⟩
  unfold mFrV at hp
  cases q : m env B with
  | bad => rw [q] at hp; exact hp
  | exc c as B1 => rw [q] at hp; exact hp
  | ok sv B1 =>
    rw [q] at hp
    intro v G' H' s o r
    cases sv with
    | d x => exact hp v G' H' s o r
    | bag => exact hp.elim
    | own xs =>
      obtain ⟨p, vs, rfl, h1, h2, h3, h4, h5⟩ := r
      exact hp _ (upd G' p (.lst vs)) H' (s.freeze h1 h2) (o.freeze h3 h4) (.lst upd_same (h5.mono (sub_upd h1)))
    | ownD xs =>
      obtain ⟨p, vs, rfl, h1, h2, h3, h4, h5⟩ := r
      exact hp _ (upd G' p (.dK vs)) H' (s.freeze h1 h2) (o.freeze h3 h4) (.dct upd_same (h5.mono (sub_upd h1)))
def mDcx (vs : List Nat) (mi : EnvM → Bag → Res (List PD)) (g : PD → EnvM → Option EnvM) (c : EnvM → Bag → Res Bool) (mk mv : EnvM → Bag → Res PD) : EnvM → Bag → Res SV := fun env B => (mi env B).bind fun ds B1 => match mDGo g c mk mv (wipeE env vs) ds [] B1 with
  | .ok acc B2 => .ok (.ownD acc) B2
  | _ => .bad
theorem md_dc {st : Bool} {kx vx tg iter : Expr} {ifs : List Expr} {scope : Scope} (own : List (Str × Nat)) {pos : Pos} {wi : TI} {g : TG} {tt : TT} {tk tv : TE} {mi : EnvM → Bag → Res (List PD)} {mgt : PD → EnvM → Option EnvM} {mt : EnvM → Bag → Res Bool} {mk mv : EnvM → Bag → Res PD} {js : List Nat} (hc : X.calm = true) (hN : X.N.Nodup) (hi : WI X W st tg iter wi mi)
    (hg : ∀ (s : Shared) (H : Hp) (C : Addr) (cl : List (Str × Addr)) (fp : List Addr), GT (X.blk s H scope (compEnvC scope cl C X.env) fp) st tg g mgt js) (ht : ∀ (s : Shared) (H : Hp) (C : Addr) (cl : List (Str × Addr)) (fp : List Addr), TDs (X.blk s H scope (compEnvC scope cl C X.env) fp) W0 ifs tt mt)
    (hk : ∀ (s : Shared) (H : Hp) (C : Addr) (cl : List (Str × Addr)) (fp : List Addr), ED (X.blk s H scope (compEnvC scope cl C X.env) fp) W0 kx tk mk) (he : ∀ (s : Shared) (H : Hp) (C : Addr) (cl : List (Str × Addr)) (fp : List Addr), ED (X.blk s H scope (compEnvC scope cl C X.env) fp) W0 vx tv mv)
    (ok : blkC X.N X.env.scope scope own = true := by rfl) (hjs : ∀ j ∈ js, j ∈ own.map (·.2) := by decide) (hs : ∀ x, foldedSetIterable iter X.env x = pure x := by intro _; rfl) :
    MD X W (.DictComp kx vx [⟨tg, iter, ifs, 0⟩] scope pos) (tDc wi g tt tk tv (own.map (·.2))) (mDcx (own.map (·.2)) mi mgt mt mk mv) := by
  refine ⟨pe_dc hc hN hi.pe (blkOk_by ok) (fun s H C cl fp => (hg s H C cl fp).pg) (fun s H C cl fp => (ht s H C cl fp).pe) (fun s H C cl fp => (hk s H C cl fp).pe) (fun s H C cl fp => (he s H C cl fp).pe) hs, fun w G0 H0 σ env G H B Q R h => ?_⟩
  have gg := hg X.s_0 X.H_0 0 [] []
  have tt' := ht X.s_0 X.H_0 0 [] []
  have kk := hk X.s_0 X.H_0 0 [] []
  have vv := he X.s_0 X.H_0 0 [] []
  generalize own.map (·.2) = vs at *
  refine hi.sem w G0 H0 σ env G H B _ R (PostM.bind h fun ds B1 J G1 H1 s1 o1 wk h1 => ?_)
  have R1 := R.step s1 o1
  intro D hD
  have nD : Nb w D := o1.nb hD
  cases e : mDGo mgt mt mk mv (wipeE env vs) ds [] B1 with
  | bad => rw [e] at h1; exact h1.elim
  | exc c as B2 => rw [e] at h1; exact h1.elim
  | ok acc B2 =>
    rw [e] at h1
    have hD0 : NN (H D) := s1.back0 (.inl hD)
    refine dgo_sem gg tt' kk vv hjs wk hD nD (R1.guardNew (o := .dK []) hD) (Sub.refl _) (Step.newH hD) upd_same (o1.free hD) .nil e (fun H => Q (.ref D) H) fun G' H' kvs T' b s' hD' g' r' => ?_
    have R' := T' _ _ (R1.guardNew hD)
    exact h1 (.ref D) G' H' (s1.trans s') R'.ok ⟨D, kvs, rfl, g', hD0, nD, hD', r'⟩
/-! ### two fors -/
def mDGo2 (g : PD → EnvM → Option EnvM) (c : EnvM → Bag → Res Bool) (mi1 : EnvM → Bag → Res (List PD)) (g1 : PD → EnvM → Option EnvM) (c1 : EnvM → Bag → Res Bool) (mk mv : EnvM → Bag → Res PD) (vs1 : List Nat) (env0 : EnvM) : List PD → List (PD × PD) → Bag → Res (List (PD × PD))
  | [], acc, B => .ok acc B
  | d :: ds, acc, B => match g d env0 with
    | none => .bad
    | some e1 => match c e1 B with
      | .ok true B1 => (match mi1 e1 B1 with
        | .ok ds1 B2 => (match mDGo g1 c1 mk mv (wipeE e1 vs1) ds1 acc B2 with
          | .ok acc' B3 => mDGo2 g c mi1 g1 c1 mk mv vs1 env0 ds acc' B3
          | _ => .bad)
        | _ => .bad)
      | .ok false B1 => mDGo2 g c mi1 g1 c1 mk mv vs1 env0 ds acc B1
      | _ => .bad
def mDcx2 (vs vs1 : List Nat) (mi : EnvM → Bag → Res (List PD)) (g : PD → EnvM → Option EnvM) (c : EnvM → Bag → Res Bool) (mi1 : EnvM → Bag → Res (List PD)) (g1 : PD → EnvM → Option EnvM) (c1 : EnvM → Bag → Res Bool) (mk mv : EnvM → Bag → Res PD) : EnvM → Bag → Res SV := fun env B => (mi env B).bind fun ds B1 =>
  match mDGo2 g c mi1 g1 c1 mk mv vs1 (wipeE env vs) ds [] B1 with
  | .ok acc B2 => .ok (.ownD acc) B2
  | _ => .bad
theorem md_dc2 {st st1 : Bool} {kx vx tg iter tg1 iter1 : Expr} {ifs ifs1 : List Expr} {scope : Scope} (own : List (Str × Nat)) (vs1 : List Nat) {pos : Pos} {wi wi1 : TI} {g g1 : TG} {tt tt1 : TT} {tk tv : TE} {mi mi1 : EnvM → Bag → Res (List PD)} {mgt mgt1 : PD → EnvM → Option EnvM} {mt mt1 : EnvM → Bag → Res Bool} {mk mv : EnvM → Bag → Res PD} {js js1 : List Nat} (hc : X.calm = true) (hN : X.N.Nodup) (hi : WI X W st tg iter wi mi)
    (hg : ∀ (s : Shared) (H : Hp) (C : Addr) (cl : List (Str × Addr)) (fp : List Addr), GT (X.blk s H scope (compEnvC scope cl C X.env) fp) st tg g mgt js) (ht : ∀ (s : Shared) (H : Hp) (C : Addr) (cl : List (Str × Addr)) (fp : List Addr), TDs (X.blk s H scope (compEnvC scope cl C X.env) fp) W0 ifs tt mt)
    (hi1 : ∀ (s : Shared) (H : Hp) (C : Addr) (cl : List (Str × Addr)) (fp : List Addr), WI (X.blk s H scope (compEnvC scope cl C X.env) fp) W0 st1 tg1 iter1 wi1 mi1)
    (hg1 : ∀ (s : Shared) (H : Hp) (C : Addr) (cl : List (Str × Addr)) (fp : List Addr), GT (X.blk s H scope (compEnvC scope cl C X.env) fp) st1 tg1 g1 mgt1 js1) (ht1 : ∀ (s : Shared) (H : Hp) (C : Addr) (cl : List (Str × Addr)) (fp : List Addr), TDs (X.blk s H scope (compEnvC scope cl C X.env) fp) W0 ifs1 tt1 mt1)
    (hk : ∀ (s : Shared) (H : Hp) (C : Addr) (cl : List (Str × Addr)) (fp : List Addr), ED (X.blk s H scope (compEnvC scope cl C X.env) fp) W0 kx tk mk) (he : ∀ (s : Shared) (H : Hp) (C : Addr) (cl : List (Str × Addr)) (fp : List Addr), ED (X.blk s H scope (compEnvC scope cl C X.env) fp) W0 vx tv mv)
    (ok : blkC X.N X.env.scope scope own = true := by rfl) (hjs : ∀ j ∈ js, j ∈ own.map (·.2) := by decide) (hjs1 : ∀ j ∈ js1, j ∈ vs1 := by decide) (hv : ∀ j ∈ vs1, j ∈ own.map (·.2) := by decide) (hs : ∀ x, foldedSetIterable iter X.env x = pure x := by intro _; rfl) (hs1 : ∀ env x, foldedSetIterable iter1 env x = pure x := by intro _ _; rfl) :
    MD X W (.DictComp kx vx [⟨tg, iter, ifs, 0⟩, ⟨tg1, iter1, ifs1, 0⟩] scope pos) (ZD.tDc2 wi g tt wi1 g1 tt1 tk tv (own.map (·.2)) vs1) (mDcx2 (own.map (·.2)) vs1 mi mgt mt mi1 mgt1 mt1 mk mv) := by
  refine ⟨ZD.pe_dc2 hc hN hi.pe (blkOk_by ok) hv (fun s H C cl fp => (hg s H C cl fp).pg) (fun s H C cl fp => (ht s H C cl fp).pe) (fun s H C cl fp => (hi1 s H C cl fp).pe) (fun s H C cl fp => (hg1 s H C cl fp).pg) (fun s H C cl fp => (ht1 s H C cl fp).pe) (fun s H C cl fp => (hk s H C cl fp).pe) (fun s H C cl fp => (he s H C cl fp).pe) hs hs1, fun w G0 H0 σ env G H B Q R h => ?_⟩
  have gg := hg X.s_0 X.H_0 0 [] []
  have tt' := ht X.s_0 X.H_0 0 [] []
  have ii := hi1 X.s_0 X.H_0 0 [] []
  have gg1 := hg1 X.s_0 X.H_0 0 [] []
  have tt1' := ht1 X.s_0 X.H_0 0 [] []
  have kk := hk X.s_0 X.H_0 0 [] []
  have vv := he X.s_0 X.H_0 0 [] []
  generalize own.map (·.2) = vs at *
  refine hi.sem w G0 H0 σ env G H B _ R (PostM.bind h fun ds B1 J G1 H1 s1 o1 wk h1 => ?_)
  have R1 := R.step s1 o1
  intro D hD
  have nD : Nb w D := o1.nb hD
  cases e : mDGo2 mgt mt mi1 mgt1 mt1 mk mv vs1 (wipeE env vs) ds [] B1 with
  | bad => rw [e] at h1; exact h1.elim
  | exc c as B2 => rw [e] at h1; exact h1.elim
  | ok accF BF =>
    rw [e] at h1
    have hD0 : NN (H D) := s1.back0 (.inl hD)
    refine ⟨fun i m H => m = ds.length - i ∧ i ≤ ds.length ∧ ∃ G' B kvs acc, Rel X.K w G0 (upd H0 D (.dK kvs)) σ env G' H B ∧ Sub G1 G' ∧ Step w G1 H1 G' H ∧ H D = some (.dK kvs) ∧ G' D = none ∧ DKs X.K G' kvs acc ∧ mDGo2 mgt mt mi1 mgt1 mt1 mk mv vs1 (wipeE env vs) (ds.drop i) acc B = .ok accF BF,
      ⟨ds.length, by simp, Nat.zero_le _, G1, B1, [], [], R1.guardNew hD, Sub.refl _, Step.newH hD, upd_same, o1.free hD, .nil, e⟩, ?_⟩
    rintro i m H2 ⟨rfl, hin, G2, B2, kvs, acc, R2, b2, s2, hD2, g2, ra2, p2⟩
    by_cases hlt : i < ds.length
    · right
      have hd : ds[i]? = some ds[i] := by simp [hlt]
      rw [List.drop_eq_getElem_cons hlt] at p2
      refine ⟨wk.go i H2 _ (Sub.trans b2 R2.ok.sub) hd, fun H => ∃ G' B kvs acc, Rel X.K w G0 (upd H0 D (.dK kvs)) σ env G' H B ∧ Sub G1 G' ∧ Step w G1 H1 G' H ∧ H D = some (.dK kvs) ∧ G' D = none ∧ DKs X.K G' kvs acc ∧ mDGo2 mgt mt mi1 mgt1 mt1 mk mv vs1 (wipeE env vs) (ds.drop (i + 1)) acc B = .ok accF BF,
        fun H' q => ⟨ds.length - (i + 1), by omega, rfl, hlt, q⟩, fun x H3 y => ?_⟩
      obtain ⟨G3, s3, o3, d3⟩ := wk.yld i w G2 H2 B2 x H3 _ R2.ok b2 hd y
      have R3 := R2.step s3 o3
      have hD3 := s3.keep D _ nD.one (fun _ z => by cases z) hD2
      have g3 : G3 D = none := s3.notIn g2 hD2
      unfold mDGo2 at p2
      cases q : mgt ds[i] (wipeE env vs) with
      | none => rw [q] at p2; cases p2
      | some env3 =>
        rw [q] at p2
        refine gg.sem w G0 _ (wipe σ vs) (wipeE env vs) G3 H3 B2 x _ env3 _ (R3.wipe vs) d3 q fun σ4 R4 w4 => ⟨?_, ?_⟩
        · rw [w4 vs hjs]; exact wipe_wipe vs fun _ z => z
        · cases z : mt env3 B2 with
          | bad => simp only [z] at p2; cases p2
          | exc c as B4 => simp only [z] at p2; cases p2
          | ok b B4 =>
            refine tt'.sem w G0 _ σ4 env3 G3 H3 B2 _ R4 ?_
            rw [z]
            intro b' G5 H5 s5 o5 eb
            subst eb
            have R5 := R3.step s5 o5
            have hD5 := s5.keep D _ nD.one (fun _ z => by cases z) hD3
            have g5 : G5 D = none := s5.notIn g3 hD3
            have s15 := (s2.trans s3).trans s5
            have b5 := Sub.trans b2 (Sub.trans s3.exG s5.exG)
            have ra5 := (ra2.mono s3.exG).mono s5.exG
            cases b' with
            | false =>
              simp only [z] at p2
              exact ⟨G5, B4, kvs, acc, R5, b5, s15, hD5, g5, ra5, p2⟩
            | true =>
              simp only [z] at p2
              cases z2 : mi1 env3 B4 with
              | bad => simp only [z2] at p2; cases p2
              | exc c as B6 => simp only [z2] at p2; cases p2
              | ok ds1 B6 =>
                simp only [z2] at p2
                show wi1 σ4 H5 _
                have R4' := R4.step s5 o5
                refine ii.sem w G0 _ σ4 env3 G5 H5 B4 _ R4' ?_
                rw [z2]
                intro J1 G6 H6 s6 o6 wk1
                cases z3 : mDGo mgt1 mt1 mk mv (wipeE env3 vs1) ds1 acc B6 with
                | bad => simp only [z3] at p2; cases p2
                | exc c as B6 => simp only [z3] at p2; cases p2
                | ok acc' B7 =>
                  simp only [z3] at p2
                  have g6 : G6 D = none := s6.notIn g5 hD5
                  have hD6 := s6.keep D _ nD.one (fun _ z => by cases z) hD5
                  refine dgo_sem gg1 tt1' kk vv hjs1 wk1 hD nD (R4'.step s6 o6) (Sub.refl _) (s15.trans s6) hD6 g6 (ra5.mono s6.exG) z3 _ fun G' H' kvs' T' b' s' hD' g' r' => ?_
                  exact ⟨G', B7, kvs', acc', T' _ _ (R5.step s6 o6), Sub.trans (Sub.trans b5 s6.exG) b', s', hD', g', r', p2⟩
    · left
      have e : i = ds.length := by omega
      subst e
      rw [List.drop_length] at p2
      cases p2
      exact ⟨wk.stop _ H2 (Sub.trans b2 R2.ok.sub) (Nat.le_refl _), h1 (.ref D) G2 H2 (s1.trans s2) R2.ok ⟨D, kvs, rfl, g2, hD0, nD, hD2, ra2⟩⟩
end
end DL
set_option Elab.async false
set_option linter.all false
set_option maxRecDepth 100000
set_option maxHeartbeats 4000000
/-! DL19: texts in order. -/
namespace DL
open PySem L2 PySem.Spec PyProof.Rows
def leS (a b : Str) : Bool := !ltCps b.cps.toList a.cps.toList
theorem leS_le {a b : Str} : leS a b = true ↔ a.cps.toList ≤ b.cps.toList := by
  unfold leS
  rw [ltCps_eq]
  simp [List.not_lt]
theorem leS_trans {a b c : Str} (h1 : leS a b = true) (h2 : leS b c = true) : leS a c = true := leS_le.mpr (List.le_trans (leS_le.mp h1) (leS_le.mp h2))
theorem leS_total (a b : Str) : (leS a b || leS b a) = true := by
  rcases List.le_total a.cps.toList b.cps.toList with h | h
  · rw [leS_le.mpr h]; rfl
  · rw [leS_le.mpr h, Bool.or_true]
theorem leS_anti {a b : Str} (h1 : leS a b = true) (h2 : leS b a = true) : a = b := by
  have e := List.le_antisymm (leS_le.mp h1) (leS_le.mp h2)
  cases a; cases b
  simp only at e
  congr
  exact Array.toList_inj.mp e
def sortS (xs : List Str) : List Str := xs.mergeSort leS
theorem rising_pw : ∀ (p : Str) (l : List Str), risingS p l = true → (p :: l).Pairwise fun a b => leS a b = true
  | p, [], _ => List.pairwise_singleton _ _
  | p, x :: r, h => by
    unfold risingS at h
    rw [Bool.and_eq_true] at h
    have ih := rising_pw x r h.2
    refine List.pairwise_cons.mpr ⟨fun y hy => ?_, ih⟩
    have hx : leS p x = true := h.1
    rcases List.mem_cons.mp hy with rfl | hy
    · exact hx
    · exact leS_trans hx ((List.pairwise_cons.mp ih).1 y hy)
theorem sorted_pw {l : List Str} (h : sortedS l = true) : l.Pairwise fun a b => leS a b = true := by
  cases l with
  | nil => exact .nil
  | cons x r => exact rising_pw x r h
theorem sortS_only {xs ys : List Str} (p : ys.Perm xs) (s : sortedS ys = true) : ys = sortS xs :=
  List.Perm.eq_of_pairwise (fun a b _ _ h1 h2 => leS_anti h1 h2) (sorted_pw s) (List.pairwise_mergeSort (le := leS) (fun _ _ _ => leS_trans) leS_total xs) (p.trans (List.mergeSort_perm xs _).symm)
end DL
set_option Elab.async false
set_option linter.all false
set_option maxRecDepth 100000
set_option maxHeartbeats 4000000
/-! DL20: sorted of texts, of a dict's keys that are texts. -/
namespace DL
open PySem L2
open ZT (PT)
section
variable {X : Cx} {W : WX}
def unS : List PD → Option (List Str)
  | [] => some []
  | .str x :: r => (unS r).map (x :: ·)
  | _ :: _ => none
theorem unS_eq : ∀ {ds : List PD} {xs : List Str}, unS ds = some xs → ds = xs.map PyData.str
  | [], xs, h => by cases h; rfl
  | d :: r, xs, h => by
    cases d with
    | str x =>
      unfold unS at h
      cases e : unS r with
      | none => rw [e] at h; cases h
      | some ys => rw [e] at h; cases h; rw [unS_eq e]; rfl
    | _ => cases h
theorem DRs.strs {K : Fg} {G : Hp} : ∀ ns : List Str, DRs K G (ns.map V.str) (ns.map PyData.str)
  | [] => .nil
  | n :: r => .cons (.str n) (DRs.strs r)
/-- sorted of a list of texts, or of a dict whose keys are texts -/
def sortedSP : List PD → Option PD
  | [.list ds] => match unS ds with
    | some xs => if xs.length < 64 then some (.list ((sortS xs).map PyData.str)) else none
    | none => none
  | _ => none
theorem ca_sortedS : CaD X (rSortedS X.K) sortedSP := by
  intro w G H B vs ds z Q o r hz k
  unfold sortedSP at hz
  split at hz
  · rename_i es
    cases e : unS es with
    | none => simp only [e] at hz; cases hz
    | some xs =>
      simp only [e] at hz
      split at hz
      · rename_i hl
        cases hz
        obtain ⟨v, rfl, d⟩ := r.one
        rw [unS_eq e] at d
        cases d with
        | lst hx q =>
          have e2 := q.of_strs
          subst e2
          refine ⟨_, _, rfl, subL o.sub hx, hl, fun ys p hp hs hn => ?_⟩
          have e3 := sortS_only hp hs
          subst e3
          exact k _ _ _ (Step.new o.sub hn) (o.new hn) (.lst upd_same (DRs.strs _))
      · cases hz
  · cases hz
theorem DKs.keysS {K : Fg} {G : Hp} : ∀ {kvs : List (Key × V)} {ds : List (PD × PD)} {xs : List Str}, DKs K G kvs ds → unS (ds.map (·.1)) = some xs → kvs.map (·.1) = xs.map Sum.inr
  | _, _, _, .nil, h => by cases h; rfl
  | _, _, xs, .cons (k := k) (kvs := kvs) (ds := ds) _ r, h => by
    cases k with
    | inl i => cases h
    | inr x =>
      have h : (unS (ds.map (·.1))).map (x :: ·) = some xs := h
      cases e : unS (ds.map (·.1)) with
      | none => rw [e] at h; cases h
      | some ys =>
        rw [e] at h
        cases h
        rw [List.map_cons, List.map_cons, DKs.keysS r e]
abbrev rSrtDS : List V → Hp → VK → Prop := fun xs H Q => ∃ (a : Addr) (kvs : List (Key × V)) (ks : List Str), xs = [.ref a] ∧ Rd H a (.dK kvs) ∧ kvs.map (·.1) = ks.map Sum.inr ∧ ks.length < 64 ∧ ∀ ys p, ys.Perm ks → PyProof.Rows.sortedS ys = true → H p = none → Q (.ref p) (upd H p (.lst (ys.map V.str)))
def sortedDP : List PD → Option PD
  | [.dict ds] => match unS (ds.map (·.1)) with
    | some xs => if xs.length < 64 then some (.list ((sortS xs).map PyData.str)) else none
    | none => none
  | _ => none
theorem ca_sortedDS : CaD X rSrtDS sortedDP := by
  intro w G H B vs ds z Q o r hz k
  unfold sortedDP at hz
  split at hz
  · rename_i es
    cases e : unS (es.map (·.1)) with
    | none => simp only [e] at hz; cases hz
    | some xs =>
      simp only [e] at hz
      split at hz
      · rename_i hl
        cases hz
        obtain ⟨v, rfl, d⟩ := r.one
        cases d with
        | dct hx q =>
          refine ⟨_, _, xs, rfl, .inl (o.sub _ _ hx), q.keysS e, hl, fun ys p hp hs hn => ?_⟩
          have e3 := sortS_only hp hs
          subst e3
          exact k _ _ _ (Step.new o.sub hn) (o.new hn) (.lst upd_same (DRs.strs _))
      · cases hz
  · cases hz
end
end DL
set_option Elab.async false
set_option linter.all false
set_option maxRecDepth 100000
set_option maxHeartbeats 2000000
/-! DL23: stars in displays; in, not in of any depth; index; is of truths; t * k. -/
namespace DL
open PySem L2
open ZT (PT)
section
variable {X : Cx} {W : WX}
/-! ### stars -/
def mStar (m : EnvM → Bag → Res PD) (r : EnvM → Bag → Res (List SV)) : EnvM → Bag → Res (List SV) := fun env B => (m env B).bind fun x B1 => match x with
  | .list ds => (r env B1).bind fun xs B2 => .ok (ds.map SV.d ++ xs) B2
  | .tuple ds => (r env B1).bind fun xs B2 => .ok (ds.map SV.d ++ xs) B2
  | _ => .bad
theorem DRs.args {K : Fg} {w : Wd} {G : Hp} : ∀ {vs : List V} {ds : List PD}, DRs K G vs ds → ARs K w G vs (ds.map SV.d)
  | _, _, .nil => .nil
  | _, _, .cons h r => .cons h (DRs.args r)
theorem ARs.app {K : Fg} {w : Wd} {G : Hp} : ∀ {vs us : List V} {ss ts : List SV}, ARs K w G vs ss → ARs K w G us ts → ARs K w G (vs ++ us) (ss ++ ts)
  | _, _, _, _, .nil, r => r
  | _, _, _, _, .cons h t, r => .cons h (ARs.app t r)
theorem ad_starK (K : Fg) {t : TE} {t2 : TA} {e : Expr} {es : List Expr} {m : EnvM → Bag → Res PD} {mr : EnvM → Bag → Res (List SV)} {p : Pos} (he : ED X W e t m) (hr : AD X W es t2 mr) (hs : starEach (.Starred e p :: es) X.env = (true, eval e X.env) :: starEach es X.env := by rfl) (hK : X.K = K := by rfl) :
    AD X W (.Starred e p :: es) (StX.tStar K t t2) (mStar m mr) := by
  subst hK
  refine ⟨StX.pa_star he.pe hr.pe hs, fun w G0 H0 σ env G H B Q R h => ?_⟩
  refine he.sem w G0 H0 σ env G H B _ R (PostR.bind h fun x B1 v G1 H1 s1 o1 d1 h1 => ?_)
  cases x with
  | list ds =>
    cases d1 with
    | lst hx q =>
      refine ⟨_, _, rfl, .inr (subL o1.sub hx), hr.sem w G0 H0 σ env G1 H1 B1 _ (R.step s1 o1) (PostR.bind h1 fun xs B2 vs G2 H2 s2 o2 d2 h2 => ?_)⟩
      exact h2 _ G2 H2 Step.refl o2 ((q.mono s2.exG).args.app d2)
  | tuple ds =>
    cases d1 with
    | tup hx q =>
      refine ⟨_, _, rfl, .inl (subT o1.sub hx), hr.sem w G0 H0 σ env G1 H1 B1 _ (R.step s1 o1) (PostR.bind h1 fun xs B2 vs G2 H2 s2 o2 d2 h2 => ?_)⟩
      exact h2 _ G2 H2 Step.refl o2 ((q.mono s2.exG).args.app d2)
  | _ => exact (show False from h1).elim
/-! ### in, not in -/
def inDP (d : PD) : PD → Option Bool
  | .list ds => if SeqAt.shaped d = true ∧ SeqAt.shaped (.list ds) = true then some (ds.any fun z => PyData.eqv z d) else none
  | .tuple ds => if SeqAt.shaped d = true ∧ SeqAt.shaped (.tuple ds) = true then some (ds.any fun z => PyData.eqv z d) else none
  | _ => none
def inAP : PD → PD → Option Bool := gOr inP inDP
def ninDP (d e : PD) : Option Bool := (inDP d e).map (!·)
def ninAP : PD → PD → Option Bool := gOr ninP ninDP
abbrev rInA (K : Fg) : R2 := rOr (rOr (rIn K false) (rInS false)) (rOr (rInD K) (ZT.rInT K false))
abbrev rNinA (K : Fg) : R2 := rOr (rOr (rIn K true) (rInS true)) (rOr (rNotInD K) (ZT.rInT K true))
theorem op_inA (hu : X.A.units + 65 < cLine) : OpR X (compareOp .In) (rInA X.K) := opR_or op_inU (opR_or (op_inD hu) (ZT.op_inT hu))
theorem op_ninA (hu : X.A.units + 65 < cLine) : OpR X (compareOp .NotIn) (rNinA X.K) := opR_or op_ninU (opR_or (op_notInD hu) (ZT.op_ninT hu))
theorem lay_list {ds : List PD} (h : SeqAt.shaped (.list ds) = true) : (PyData.list ds).canLay0 = true := SeqAt.canLay_of_shaped h
theorem lay_tup {ds : List PD} (h : SeqAt.shaped (.tuple ds) = true) : (PyData.tuple ds).canLay0 = true := SeqAt.canLay_of_shaped h
theorem opC_inA : OpC X (rInA X.K) inAP := by
  refine opC_or opC_in fun w G H B x y d e b Q o dx dy hz k => ?_
  cases e with
  | list ds =>
    have hz : (if SeqAt.shaped d = true ∧ SeqAt.shaped (.list ds) = true then some (ds.any fun z => PyData.eqv z d) else none) = some b := hz
    by_cases c : SeqAt.shaped d = true ∧ SeqAt.shaped (.list ds) = true
    · rw [if_pos c] at hz
      cases hz
      exact .inl ⟨d, ds, (dx.mono o.sub).dp (SeqAt.canLay_of_shaped c.1), (dy.mono o.sub).dp (lay_list c.2), c.1, c.2, k⟩
    · rw [if_neg c] at hz; cases hz
  | tuple ds =>
    have hz : (if SeqAt.shaped d = true ∧ SeqAt.shaped (.tuple ds) = true then some (ds.any fun z => PyData.eqv z d) else none) = some b := hz
    by_cases c : SeqAt.shaped d = true ∧ SeqAt.shaped (.tuple ds) = true
    · rw [if_pos c] at hz
      cases hz
      exact .inr ⟨d, ds, (dx.mono o.sub).dp (SeqAt.canLay_of_shaped c.1), (dy.mono o.sub).dp (lay_tup c.2), c.1, c.2, k⟩
    · rw [if_neg c] at hz; cases hz
  | _ => cases hz
theorem opC_ninA : OpC X (rNinA X.K) ninAP := by
  refine opC_or opC_nin fun w G H B x y d e b Q o dx dy hz k => ?_
  cases e with
  | list ds =>
    have hz : (if SeqAt.shaped d = true ∧ SeqAt.shaped (.list ds) = true then some (ds.any fun z => PyData.eqv z d) else none).map (!·) = some b := hz
    by_cases c : SeqAt.shaped d = true ∧ SeqAt.shaped (.list ds) = true
    · rw [if_pos c] at hz
      cases hz
      exact .inl ⟨d, ds, (dx.mono o.sub).dp (SeqAt.canLay_of_shaped c.1), (dy.mono o.sub).dp (lay_list c.2), c.1, c.2, k⟩
    · rw [if_neg c] at hz; cases hz
  | tuple ds =>
    have hz : (if SeqAt.shaped d = true ∧ SeqAt.shaped (.tuple ds) = true then some (ds.any fun z => PyData.eqv z d) else none).map (!·) = some b := hz
    by_cases c : SeqAt.shaped d = true ∧ SeqAt.shaped (.tuple ds) = true
    · rw [if_pos c] at hz
      cases hz
      exact .inr ⟨d, ds, (dx.mono o.sub).dp (SeqAt.canLay_of_shaped c.1), (dy.mono o.sub).dp (lay_tup c.2), c.1, c.2, k⟩
    · rw [if_neg c] at hz; cases hz
  | _ => cases hz
/-! ### is of truths -/
def isBP : PD → PD → Option Bool
  | .bool a, .bool b => some (decide (a = b))
  | _, _ => none
def isnBP : PD → PD → Option Bool
  | .bool a, .bool b => some (!decide (a = b))
  | _, _ => none
theorem opC_isB : OpC X rIsB isBP := by
  intro w G H B x y d e b Q o dx dy hz k
  cases d <;> cases e <;> try (cases hz; done)
  cases dx; cases dy; cases hz
  exact ⟨_, _, rfl, rfl, k⟩
theorem opC_isnB : OpC X rNotB isnBP := by
  intro w G H B x y d e b Q o dx dy hz k
  cases d <;> cases e <;> try (cases hz; done)
  cases dx; cases dy; cases hz
  exact ⟨_, _, rfl, rfl, k⟩
/-! ### a value by the one reading or the other -/
theorem pe_either {e : Expr} {t1 t2 : TE} (h1 : PE X e t1) (h2 : PE X e t2) : PE X e (fun σ H Q => t1 σ H Q ∨ t2 σ H Q) :=
  ⟨fun pins s σ H Q I h => by
    rcases h with h | h
    · exact h1.run pins s σ H Q I h
    · exact h2.run pins s σ H Q I h⟩
/-! ### xs.index(x) -/
def idxOf (d : PD) : List PD → Option Nat
  | [] => none
  | z :: r => if PyData.eqv z d = true then some 0 else (idxOf d r).map (· + 1)
theorem idxOf_get {d : PD} : ∀ {ds : List PD} {j : Nat}, idxOf d ds = some j → ∃ z, ds[j]? = some z ∧ PyData.eqv z d = true ∧ ∀ (m : Nat) (z' : PD), m < j → ds[m]? = some z' → PyData.eqv z' d = false
  | [], j, h => by cases h
  | z :: r, j, h => by
    unfold idxOf at h
    by_cases c : PyData.eqv z d = true
    · rw [if_pos c] at h
      cases h
      exact ⟨z, rfl, c, fun m _ hm => absurd hm (Nat.not_lt_zero m)⟩
    · rw [if_neg c] at h
      cases q : idxOf d r with
      | none => rw [q] at h; cases h
      | some i =>
        rw [q] at h
        have ej : i + 1 = j := Option.some.inj h
        subst ej
        obtain ⟨y, h1, h2, h3⟩ := idxOf_get q
        refine ⟨y, h1, h2, fun m z' hm e => ?_⟩
        cases m with
        | zero =>
          cases e
          simpa using c
        | succ m => exact h3 m z' (by omega) (by simpa using e)
def indexP : PD → PD → Option PD
  | .list ds, d => if SeqAt.shaped (.list ds) = true ∧ SeqAt.shaped d = true then (idxOf d ds).map fun j : Nat => .int (j : Int) else none
  | .tuple ds, d => if SeqAt.shaped (.tuple ds) = true ∧ SeqAt.shaped d = true then (idxOf d ds).map fun j : Nat => .int (j : Int) else none
  | _, _ => none
def isSeqP : PD → Bool
  | .list _ => true
  | .tuple _ => true
  | _ => false
def mIndex (ma mb : EnvM → Bag → Res PD) : EnvM → Bag → Res PD := fun env B => (ma env B).bind fun x B1 => if isSeqP x = true then ((mb env B1).bind fun d B2 => match indexP x d with
  | some z => .ok z B2
  | none => .bad) else .bad
theorem ed_indexK (K : Fg) {a b : Expr} {ta tb : TE} {ma mb : EnvM → Bag → Res PD} {p1 p2 : Pos} (hu : X.A.units + 65 < cLine) (ha : ED X W a ta ma) (hb : ED X W b tb mb)
    (h1 : attributeBase a "index" X.env (eval a X.env) = eval a X.env := by rfl)
    (h2 : ((backTo p2 (starEach [b] X.env)).all (fun x => !x.1) && (backToKw p2 (keywordEach [] X.env)).all (fun x => x.1.isSome) && decide (([b] : List Expr).length + ([] : List Keyword).length + (if ([] : List Keyword).isEmpty then 0 else 1) < 30)) = true := by rfl)
    (h3 : (p1.endLine == p2.line) = true := by rfl) (h4 : starEach [b] X.env = (false, eval b X.env) :: starEach [] X.env := by rfl) (h5 : (backTo p2 (starEach [] X.env)).any (·.1) = false := by rfl) (hK : X.K = K := by rfl) :
    ED X W (.Call (.Attribute a "index" p1) [b] [] p2) (fun σ H Q => tBM K "list" (rIndexD K) ta (tCons tb tNil) σ H Q ∨ ZT.tTM K (ZT.rIndexT K) ta (tCons tb tNil) σ H Q) (mIndex ma mb) := by
  subst hK
  have pb : PA X [b] (tCons tb tNil) := pa_cons hb.pe pa_nil h4
  refine ⟨pe_either (pe_bm PySem.F.plainAttrs_list PySem.F.slot_list_index PySem.F.type_list_index (mt_indexD hu) ha.pe pb h1 h2 h3 h4 h5) (ZT.pe_tm PySem.F.slot_tuple_index PySem.F.type_tuple_index (ZT.mt_indexT hu) ha.pe pb h1 h2 h3 h4 h5), fun w G0 H0 σ env G H B Q R h => ?_⟩
  unfold mIndex at h
  cases e : ma env B with
  | ok x B1 =>
    rw [e] at h
    have mk : ∀ Q1 : VK, (∀ v G' H', Step w G H G' H' → Ok w G' H' B1 → DR X.K G' v x → Q1 v H') → PostE X.K X.mg w G H (ma env B) Q1 (fun c d H' => W c d σ H') := fun Q1 k => by
      rw [e]
      exact k
    cases x with
    | list ds =>
      left
      refine ha.sem w G0 H0 σ env G H B _ R (mk _ fun v G1 H1 s1 o1 d1 => ?_)
      cases d1 with
      | lst hx q =>
        refine ⟨.inl ⟨rfl, _, subL o1.sub hx⟩, hb.sem w G0 H0 σ env G1 H1 B1 _ (R.step s1 o1) (PostR.bind (PostR.step s1 h) fun d B2 y G2 H2 s2 o2 d2 h2 => ?_)⟩
        have h2 : PostE X.K X.mg w G2 H2 (match (if SeqAt.shaped (.list ds) = true ∧ SeqAt.shaped d = true then (idxOf d ds).map fun j : Nat => PyData.int (j : Int) else none) with | some z => .ok z B2 | none => .bad) Q (fun c d H' => W c d σ H') := h2
        by_cases c : SeqAt.shaped (.list ds) = true ∧ SeqAt.shaped d = true
        · rw [if_pos c] at h2
          cases qj : idxOf d ds with
          | none => rw [qj] at h2; exact h2.elim
          | some j =>
            rw [qj] at h2
            obtain ⟨z, g1, g2, g3⟩ := idxOf_get qj
            exact ⟨_, y, d, ds, j, z, rfl, rfl, (DR.lst (s2.exG _ _ hx) (q.mono s2.exG) |>.mono o2.sub).dp (lay_list c.1), (d2.mono o2.sub).dp (SeqAt.canLay_of_shaped c.2), c.1, c.2, g1, g2, g3, h2 _ G2 H2 Step.refl o2 (.int _)⟩
        · rw [if_neg c] at h2; exact h2.elim
    | tuple ds =>
      right
      refine ha.sem w G0 H0 σ env G H B _ R (mk _ fun v G1 H1 s1 o1 d1 => ?_)
      cases d1 with
      | tup hx q =>
        refine ⟨⟨_, _, rfl, sbPT o1.sub hx⟩, hb.sem w G0 H0 σ env G1 H1 B1 _ (R.step s1 o1) (PostR.bind (PostR.step s1 h) fun d B2 y G2 H2 s2 o2 d2 h2 => ?_)⟩
        have h2 : PostE X.K X.mg w G2 H2 (match (if SeqAt.shaped (.tuple ds) = true ∧ SeqAt.shaped d = true then (idxOf d ds).map fun j : Nat => PyData.int (j : Int) else none) with | some z => .ok z B2 | none => .bad) Q (fun c d H' => W c d σ H') := h2
        by_cases c : SeqAt.shaped (.tuple ds) = true ∧ SeqAt.shaped d = true
        · rw [if_pos c] at h2
          cases qj : idxOf d ds with
          | none => rw [qj] at h2; exact h2.elim
          | some j =>
            rw [qj] at h2
            obtain ⟨z, g1, g2, g3⟩ := idxOf_get qj
            exact ⟨_, y, d, ds, j, z, rfl, rfl, (DR.tup (sbPT s2.exG hx) (q.mono s2.exG) |>.mono o2.sub).dp (lay_tup c.1), (d2.mono o2.sub).dp (SeqAt.canLay_of_shaped c.2), c.1, c.2, g1, g2, g3, h2 _ G2 H2 Step.refl o2 (.int _)⟩
        · rw [if_neg c] at h2; exact h2.elim
    | _ => exact (show False from h).elim
  | exc c as B1 =>
    rw [e] at h
    left
    refine ha.sem w G0 H0 σ env G H B _ R ?_
    rw [e]
    exact h
  | bad => rw [e] at h; exact h.elim
end
end DL
set_option Elab.async false
set_option linter.all false
set_option maxRecDepth 100000
set_option maxHeartbeats 2000000
/-! DL24: dict(pairs), d.get(k). -/
namespace DL
open PySem L2
open ZT (PT)
section
variable {X : Cx} {W : WX}
theorem pairs3 {pins : List (Addr × Obj)} {σ : L2.St} {H : Hp} {s : Shared} (I : Inv X pins σ H s) : ∀ {ps : List Addr} {kvs : List (Key × V)}, Paired (fun p kv => SqT X.K H p [kV kv.1, kv.2]) ps kvs →
    ∃ (prs : List (Key × Value)) (us : List Value), KV kvs prs ∧ prs.length = ps.length ∧ us.length = ps.length ∧ ∀ (j : Nat) (b : Addr), ps[j]? = some b → ∃ (k : Key) (v u : Value), prs[j]? = some (k, v) ∧ us[j]? = some u ∧ PyProof.Rows.IsTup s.heap b #[u, v] ∧ keyIs k u = true
  | _, _, .nil => ⟨[], [], .nil, rfl, rfl, fun j b e => by simp at e⟩
  | _, _, .cons (a := p) (b := kv) h t => by
    obtain ⟨prs, us, r, l1, l2, hp⟩ := pairs3 I t
    obtain ⟨its, rv, ht, _⟩ := I.tuple h
    obtain ⟨u, y, rfl, ru, ry⟩ := vals2 rv
    refine ⟨(kv.1, y) :: prs, u :: us, .cons ⟨rfl, ry⟩ r, by simp [l1], by simp [l2], fun j b e => ?_⟩
    cases j with
    | zero =>
      cases e
      exact ⟨kv.1, y, u, rfl, rfl, ht, kV_is (P := X.prog) (w := X.w) ru⟩
    | succ j =>
      obtain ⟨k, v, u', e1, e2, e3⟩ := hp j b (by simpa using e)
      exact ⟨k, v, u', by simpa using e1, by simpa using e2, e3⟩
def rDictT (K : Fg) : List V → Hp → VK → Prop := fun xs H Q => ∃ (a : Addr) (ps : List Addr) (kvs : List (Key × V)), xs = [.ref a] ∧ PT K H a (ps.map V.ref) ∧ Paired (fun p kv => SqT K H p [kV kv.1, kv.2]) ps kvs ∧ ∀ p, H p = none → Q (.ref p) (upd H p (.dK (mergeK [] kvs)))
theorem call_dictT (hcalm : X.calm = true) : CallR X (.type "dict") (rDictT X.K) := by
  intro pins s σ H xs us0 Q I r w
  obtain ⟨a, ps, kvs, rfl, hq, hp, q⟩ := w
  obtain ⟨u0, rfl, rx⟩ := vals1 r
  cases rx
  obtain ⟨its, rv, pl, hz⟩ := I.tuple hq.sq
  obtain rfl := refs_at rv
  rw [List.length_map] at hz
  obtain ⟨prs, us, rel, l1, l2, hpr⟩ := pairs3 I hp
  obtain ⟨o, ho, hc, n, hd⟩ := pl
  obtain ⟨_, pl2⟩ := hq.plain I
  obtain ⟨ob, ho2, hdn⟩ := pl2 a rfl
  rw [ho] at ho2
  cases ho2
  have lz : (List.zip us (prs.map (·.2))).length = ps.length := by rw [List.length_zip, List.length_map, l1, l2, Nat.min_self]
  have P := PairArg.tuple (prog := X.prog) (w := X.w) a (ps.map Value.ref).toArray (fun j => ps.getD j 0) (List.zip us (prs.map (·.2)))
  have items : PairItems s.heap (ps.map Value.ref).toArray (fun j => ps.getD j 0) (List.zip us (prs.map (·.2))) := by
    refine ⟨by rw [lz]; simp, fun j k v e => ?_⟩
    have hj : j < ps.length := by
      have := (List.getElem?_eq_some_iff.mp e).1
      omega
    obtain ⟨k1, v1, u1, e1, e2, e3, e4⟩ := hpr j ps[j] (List.getElem?_eq_getElem hj)
    rw [List.getElem?_zip_eq_some] at e
    obtain ⟨e5, e6⟩ := e
    rw [e2] at e5
    cases e5
    rw [List.getElem?_map, e1] at e6
    cases e6
    refine ⟨by simp [hj], .inl ?_⟩
    have : ps.getD j 0 = ps[j] := by simp [hj]
    show s.heap.IsTuple (ps.getD j 0) #[k, v]
    rw [this]
    exact e3
  have hw : ∀ (i : Nat) (key v : Value), (List.zip us (prs.map (·.2)))[i]? = some (key, v) → ∃ k, prs[i]? = some (k, v) ∧ (mixKind X.prog X.w).is k key = true := fun i key v e => by
    have hj : i < ps.length := by
      have := (List.getElem?_eq_some_iff.mp e).1
      omega
    obtain ⟨k1, v1, u1, e1, e2, e3, e4⟩ := hpr i ps[i] (List.getElem?_eq_getElem hj)
    rw [List.getElem?_zip_eq_some] at e
    obtain ⟨e5, e6⟩ := e
    rw [e2] at e5
    cases e5
    rw [List.getElem?_map, e1] at e6
    cases e6
    exact ⟨k1, e1, e4⟩
  refine PySem.call_dict_pairs (knd := mixKind X.prog X.w) (kvs := prs) P (I.ok.hd hcalm) ⟨⟨o, n, ho, hc, hdn, hd⟩, items⟩ ⟨by rw [lz, l1], hw⟩ (by rw [lz]; exact hz) fun h' tk hd' k => ?_
  have hm : (s.heap.objs.size == sysModules) = false := beq_eq_false_iff_ne.mpr (Nat.ne_of_gt I.big)
  have hlen : (mergeK [] kvs).length ≤ sizeLine := by
    have z := length_mergeK kvs []
    rw [List.length_nil, Nat.zero_add, rel.length, l1] at z
    omega
  exact ⟨.ref s.heap.objs.size, upd H s.heap.objs.size (.dK (mergeK [] kvs)), I.laid (t' := tk) (fun b o => k b o (fun z => nomatch z)) (Nat.le_refl _) (show ObjOk X.prog X.w _ _ _ (.dK (mergeK [] kvs)) from ⟨hlen, hm, merged [] prs, KV.merge rel .nil, hd'⟩), rfl, q _ (I.hok.fresh (Nat.le_refl _))⟩
/-! ### by data -/
def mergeP (acc : List (PD × PD)) : List PD → Option (List (PD × PD))
  | [] => some acc
  | .tuple [k, v] :: r => match keyP k with
    | some j => mergeP (putP acc j v) r
    | none => none
  | _ :: _ => none
theorem mergeP_pair {acc : List (PD × PD)} {k v : PD} {r : List PD} {j : Key} (h : keyP k = some j) : mergeP acc (.tuple [k, v] :: r) = mergeP (putP acc j v) r := by
  show (match keyP k with | some j => mergeP (putP acc j v) r | none => none) = _
  rw [h]
theorem mergeP_inv {acc out : List (PD × PD)} {d : PD} {r : List PD} (h : mergeP acc (d :: r) = some out) : ∃ k v j, d = .tuple [k, v] ∧ keyP k = some j ∧ mergeP (putP acc j v) r = some out := by
  unfold mergeP at h
  split at h
  · rename_i h0
    cases h0
  · rename_i kd vd r' h0
    cases h0
    cases q : keyP kd with
    | none => rw [q] at h; cases h
    | some j => rw [q] at h; exact ⟨kd, vd, j, rfl, q, h⟩
  · cases h
/-- the pairs as they stand -/
theorem pairs_of_dr {K : Fg} {G H : Hp} (sub : Sub G H) {out : List (PD × PD)} : ∀ (ds : List PD) {vs : List V} {acc : List (PD × PD)} {kvs : List (Key × V)}, DRs K G vs ds → DKs K G kvs acc → mergeP acc ds = some out →
    ∃ (ps : List Addr) (prs : List (Key × V)), vs = ps.map V.ref ∧ Paired (fun p kv => SqT K H p [kV kv.1, kv.2]) ps prs ∧ DKs K G (mergeK kvs prs) out := by
  intro ds
  induction ds with
  | nil =>
    intro vs acc kvs hd ka e
    cases hd
    cases e
    exact ⟨[], [], rfl, .nil, ka⟩
  | cons d ds ih =>
    intro vs acc kvs hd ka e
    obtain ⟨kd, vd, j, rfl, q, e⟩ := mergeP_inv e
    cases hd with
    | cons h0 r =>
      cases h0 with
      | tup hx hy =>
        cases hy with
        | cons hk t =>
          cases t with
          | cons hv t2 =>
            cases t2
            obtain ⟨ps, prs, h1, h2, h3⟩ := ih r (ka.put j hv) e
            have ek := keyV hk q
            subst ek
            exact ⟨_ :: ps, (j, _) :: prs, by rw [h1]; rfl, .cons (subT sub hx) h2, h3⟩
def mDictOf (m : EnvM → Bag → Res PD) : EnvM → Bag → Res SV := fun env B => (m env B).bind fun x B1 => match x with
  | .list ds => (match mergeP [] ds with
    | some out => .ok (.ownD out) B1
    | none => .bad)
  | .tuple ds => (match mergeP [] ds with
    | some out => .ok (.ownD out) B1
    | none => .bad)
  | _ => .bad
abbrev rDictL (K : Fg) : List V → Hp → VK → Prop := fun xs H Q => ∃ (a : Addr) (ps : List Addr) (kvs : List (Key × V)), xs = [.ref a] ∧ SqL K H a (ps.map V.ref) ∧ Paired (fun p kv => SqT K H p [kV kv.1, kv.2]) ps kvs ∧ ∀ p, H p = none → Q (.ref p) (L2.upd H p (.dK (mergeK [] kvs)))
theorem callR_or {v : Value} {r1 r2 : List V → Hp → VK → Prop} (h1 : CallR X v r1) (h2 : CallR X v r2) : CallR X v (fun xs H Q => r1 xs H Q ∨ r2 xs H Q) := by
  intro pins s σ H xs us Q I r h
  rcases h with h | h
  · exact h1 pins s σ H xs us Q I r h
  · exact h2 pins s σ H xs us Q I r h
theorem md_dictOf (K : Fg) {e : Expr} {p pos : Pos} {t : TE} {m : EnvM → Bag → Res PD} (hc : X.calm = true) (hm : X.mg "dict" = none) (he : ED X W e t m) (hg : Gl X "dict" := by rfl)
    (hs : starEach [e] X.env = (false, eval e X.env) :: starEach [] X.env := by rfl) (hpl : (backTo pos (starEach [] X.env)).any (·.1) = false := by rfl) (hK : X.K = K := by rfl) :
    MD X W (.Call (.Name "dict" p) [e] [] pos) (tCB (fun xs H Q => rDictL K xs H Q ∨ rDictT K xs H Q) (tCons t tNil)) (mDictOf m) := by
  subst hK
  refine ⟨pe_callTy (callR_or (call_dictP hc) (call_dictT hc)) hg hm (by decide +kernel) (pa_cons he.pe pa_nil hs) (by decide) (by decide) hs hpl, fun w G0 H0 σ env G H B Q R h => ?_⟩
  refine he.sem w G0 H0 σ env G H B _ R (PostM.bind h fun x B1 v G1 H1 s1 o1 d1 h1 => ?_)
  cases x with
  | list ds =>
    cases d1 with
    | lst hx q =>
      have h1 : PostM X.K X.mg w G H (match mergeP [] ds with | some out => .ok (.ownD out) B1 | none => .bad) Q (fun c d H' => W c d σ H') := h1
      cases e1 : mergeP [] ds with
      | none => rw [e1] at h1; exact h1.elim
      | some out =>
        rw [e1] at h1
        obtain ⟨ps, prs, rfl, h2, h3⟩ := pairs_of_dr o1.sub _ q .nil e1
        refine .inl ⟨_, ps, prs, rfl, subL o1.sub hx, h2, fun p hp => ?_⟩
        exact h1 _ G1 _ (s1.trans (Step.newH hp)) (o1.newH hp) ⟨p, _, rfl, o1.free hp, s1.back0 (.inl hp), o1.nb hp, upd_same, h3⟩
  | tuple ds =>
    cases d1 with
    | tup hx q =>
      have h1 : PostM X.K X.mg w G H (match mergeP [] ds with | some out => .ok (.ownD out) B1 | none => .bad) Q (fun c d H' => W c d σ H') := h1
      cases e1 : mergeP [] ds with
      | none => rw [e1] at h1; exact h1.elim
      | some out =>
        rw [e1] at h1
        obtain ⟨ps, prs, rfl, h2, h3⟩ := pairs_of_dr o1.sub _ q .nil e1
        refine .inr ⟨_, ps, prs, rfl, sbPT o1.sub hx, h2, fun p hp => ?_⟩
        exact h1 _ G1 _ (s1.trans (Step.newH hp)) (o1.newH hp) ⟨p, _, rfl, o1.free hp, s1.back0 (.inl hp), o1.nb hp, upd_same, h3⟩
  | _ => exact (show False from h1).elim
/-! ### d.get(k) -/
def getP (ds : List (PD × PD)) (k : Key) : Option PD := (ds.find? fun e => decide (keyP e.1 = some k)).map (·.2)
theorem DKs.get {K : Fg} {G : Hp} (k : Key) : ∀ {kvs : List (Key × V)} {ds : List (PD × PD)}, DKs K G kvs ds → (valV kvs k = none ∧ getP ds k = none) ∨ ∃ v d, valV kvs k = some v ∧ getP ds k = some d ∧ DR K G v d
  | _, _, .nil => .inl ⟨rfl, rfl⟩
  | _, _, .cons (k := j) (v := v) (kvs := kvs) (d := d) (ds := ds) h r => by
    have ih := DKs.get k r
    unfold valV getP
    by_cases c : j = k
    · subst c
      right
      refine ⟨v, d, ?_, ?_, h⟩
      · simp [List.find?]
      · simp [List.find?, keyP_keyD]
    · have c2 : keyP (keyD j) ≠ some k := by rw [keyP_keyD]; exact fun z => c (Option.some.inj z)
      unfold valV getP at ih
      simpa [List.find?, c, c2] using ih
def mGet1 (md mk : EnvM → Bag → Res PD) : EnvM → Bag → Res PD := fun env B => (md env B).bind fun x B1 => match x with
  | .dict ds => (mk env B1).bind fun kd B2 => (match keyP kd with
    | some k => .ok ((getP ds k).getD .none) B2
    | none => .bad)
  | _ => .bad
theorem ed_get1 {o e : Expr} {td ty : TE} {md mk : EnvM → Bag → Res PD} {apos cpos : Pos} (hu : X.A.units + 1 < cLine) (ho : ED X W o td md) (he : ED X W e ty mk) (m : M1 X o "get" apos e cpos := by exact ⟨rfl, rfl, rfl, rfl⟩) :
    ED X W (.Call (.Attribute o "get" apos) [e] [] cpos) (tDGet1 td ty) (mGet1 md mk) := by
  refine ⟨pe_dget1 hu ho.pe he.pe m, fun w G0 H0 σ env G H B Q R h => ?_⟩
  refine ho.sem w G0 H0 σ env G H B _ R (PostR.bind h fun x B1 v G1 H1 s1 o1 d1 h1 => ?_)
  cases x with
  | dict ds =>
    cases d1 with
    | dct hx q =>
      refine ⟨_, rfl, .inl ⟨_, .inl (o1.sub _ _ hx)⟩, he.sem w G0 H0 σ env G1 H1 B1 _ (R.step s1 o1) (PostR.bind h1 fun kd B2 y G2 H2 s2 o2 d2 h2 => ?_)⟩
      have h2 : PostE X.K X.mg w G2 H2 (match keyP kd with | some k => .ok ((getP ds k).getD .none) B2 | none => .bad) Q (fun c d H' => W c d σ H') := h2
      cases ek : keyP kd with
      | none => rw [ek] at h2; exact h2.elim
      | some k =>
        rw [ek] at h2
        have ey : y = kV k := keyV d2 ek
        subst ey
        refine ⟨_, DGet.k (o2.sub _ _ (s2.exG _ _ hx)), ?_⟩
        have h2 : PostE X.K X.mg w G2 H2 (.ok ((getP ds k).getD .none) B2) Q (fun c d H' => W c d σ H') := h2
        rcases (q.mono s2.exG).get k with ⟨e1, e2⟩ | ⟨v', d', e1, e2, e3⟩
        · rw [e1]
          rw [e2] at h2
          exact h2 .non G2 H2 Step.refl o2 .non
        · rw [e1]
          rw [e2] at h2
          exact h2 v' G2 H2 Step.refl o2 e3
  | _ => exact (show False from h1).elim
end
end DL
set_option Elab.async false
set_option linter.all false
set_option maxRecDepth 100000
set_option maxHeartbeats 2000000
/-! DL25: lists of one's own: target = x.pop(e), x[i] = e, x[i] += e; t * k. -/
namespace DL
open PySem L2
open ZT (PT)
section
variable {X : Cx} {W : WX}
/-- target = x.pop(e) -/
def mPopSet (i : Nat) (g : PD → EnvM → Option EnvM) (m : EnvM → Bag → Res PD) : EnvM → Bag → SRes := fun env B => match env[i]? with
  | some (some (.own ys)) => (m env B).s env fun d B1 => (match popP ys d with
    | some (y, ys') => (match g y (env.set i (some (.own ys'))) with
      | some env1 => .nx env1 B1
      | none => .bad)
    | none => .bad)
  | _ => .bad
theorem sd_popSet (i : Nat) {y : Str} {e tg : Expr} {t : TE} {g : TG} {m : EnvM → Bag → Res PD} {mg : PD → EnvM → Option EnvM} {js : List Nat} {p3 p4 pc2 pos : Pos} (he : ED X W e t m) (hg : GT X true tg g mg js) (hN2 : X.N[i]? = some y := by rfl)
    (hpe : PE X (.Call (.Attribute (.Name y p3) "pop" p4) [e] [] pc2) (tBM X.K "list" rPopAt (tVar i) (tCons t tNil)))
    (hs : swapsWithSole [tg] (.Call (.Attribute (.Name y p3) "pop" p4) [e] [] pc2) pos.line X.env = pure false := by rfl) (hw : swappedStores [tg] (.Call (.Attribute (.Name y p3) "pop" p4) [e] [] pc2) X.env = pure none := by rfl)
    (h1 : (assignEach [tg] X.env).map (·.2) = [assign tg X.env] := by rfl) :
    SD X W (.Assign [tg] (.Call (.Attribute (.Name y p3) "pop" p4) [e] [] pc2) pos) (tAsg (tBM X.K "list" rPopAt (tVar i) (tCons t tNil)) g) (mPopSet i mg m) := by
  refine ⟨ps_asg hpe hg.pg hs hw h1, fun w G0 H0 σ env G H B D R h => ?_⟩
  unfold mPopSet at h
  split at h
  · rename_i ys q2
    obtain ⟨p', vs', h1', g', h0', nb', hp', r'⟩ := own_at R q2
    refine ⟨_, h1', .inl ⟨rfl, _, SqL.of hp'⟩, ?_⟩
    refine he.sem w G0 H0 σ env G H B _ R (PostS.bind R (Sub.refl _) h fun d B1 v G1 H1 s1 o1 d1 h2 => ?_)
    have R1 := R.step s1 o1
    cases e1 : popP ys d with
    | none => simp only [e1] at h2; exact h2.elim
    | some z =>
      obtain ⟨y1, ys'⟩ := z
      simp only [e1] at h2
      obtain ⟨k, rfl, k0, k1, k2, rfl⟩ := popP_of e1
      have ev : v = .int k := by cases d1; rfl
      subst ev
      have r1 := r'.mono s1.exG
      obtain ⟨u, k3, k4⟩ := r1.get k2
      have hpp := s1.keep p' _ nb'.one (fun _ z => by cases z) hp'
      have klt : k < (vs'.length : Int) := by
        have := (List.getElem?_eq_some_iff.mp k3).1
        omega
      refine ⟨p', vs', k, k.toNat, u, rfl, rfl, hpp, by omega, k1, seqIndex_of k0 klt, k3, ?_⟩
      obtain ⟨_, _, z1, z2, z3, z4, z5, z6⟩ := own_at R1 q2
      rw [h1'] at z1; cases z1
      have R2 := R1.upOwn i q2 h1' hpp (r1.erase k.toNat) z2 z3 z4
      cases e2 : mg y1 (env.set i (some (.own (ys.eraseIdx k.toNat)))) with
      | none => simp only [e2] at h2; exact h2.elim
      | some env1 =>
        simp only [e2] at h2
        exact hg.sem w G0 H0 σ _ G1 _ B1 u y1 env1 _ R2 k4 e2 fun σ' R' _ => h2 σ' G1 _ R' s1.exG
  · exact h.elim
/-- x[j] = e -/
def mSetIx (i : Nat) (mi mv : EnvM → Bag → Res PD) : EnvM → Bag → SRes := fun env B => (mv env B).s env fun d B1 => match env[i]? with
  | some (some (.own ys)) => (mi env B1).s env fun j B2 => (match j with
    | .int k => (match ixN ys.length k with
      | some n => .nx (env.set i (some (.own (ys.set n d)))) B2
      | none => .bad)
    | _ => .bad)
  | _ => .bad
theorem sd_setIx (i : Nat) {x : Str} {ei ev : Expr} {ti tv : TE} {mi mv : EnvM → Bag → Res PD} {p1 p2 pos : Pos} (hi : ED X W ei ti mi) (hv' : ED X W ev tv mv) (hN : X.N[i]? = some x := by rfl) (hv : Vis X.env.scope x := by first | exact Or.inl rfl | exact Or.inr (Or.inl rfl) | exact Or.inr (Or.inr rfl))
    (hd : (x == ("__debug__" : Str)) = false := by decide) (hcd : (x == ("__classdict__" : Str)) = false := by decide)
    (hs : swapsWithSole [.Subscript (.Name x p1) ei p2] ev pos.line X.env = pure false := by rfl) (hw : swappedStores [.Subscript (.Name x p1) ei p2] ev X.env = pure none := by rfl)
    (h1 : (assignEach [.Subscript (.Name x p1) ei p2] X.env).map (·.2) = [assign (.Subscript (.Name x p1) ei p2) X.env] := by rfl)
    (ha : ∀ v, assign (.Subscript (.Name x p1) ei p2) X.env v = (do
      let ov ← holding [v] (eval (.Name x p1) X.env)
      let iv ← holding [v, ov] (eval ei X.env)
      standAt p2
      holding [v, ov, iv] (setItem ov iv v)
      release [v, ov, iv] []) := by intro _; rfl) :
    SD X W (.Assign [.Subscript (.Name x p1) ei p2] ev pos) (tAsg tv (gSub (tVar i) ti rSetL)) (mSetIx i mi mv) := by
  refine ⟨ps_asg hv'.pe (pg_sub (pe_var hN hv hd hcd) hi.pe set_list ha) hs hw h1, fun w G0 H0 σ env G H B D R h => ?_⟩
  refine hv'.sem w G0 H0 σ env G H B _ R (PostS.bind R (Sub.refl _) h fun d B1 v G1 H1 s1 o1 d1 h1 => ?_)
  have R1 := R.step s1 o1
  split at h1
  · rename_i ys q
    obtain ⟨p, vs, e1, e2, e3, e4, e5, e6⟩ := own_at R1 q
    refine ⟨_, e1, ?_⟩
    refine hi.sem w G0 H0 σ env G1 H1 B1 _ R1 (PostS.bind R1 s1.exG h1 fun j B2 y G2 H2 s2 o2 d2 h2 => ?_)
    cases j with
    | int k =>
      cases d2
      cases en : ixN ys.length k with
      | none => simp only [en] at h2; exact h2.elim
      | some n =>
        simp only [en] at h2
        have R2 := R1.step s2 o2
        have hp2 := s2.keep p _ e4.one (fun _ z => by cases z) e5
        have hg2 : G2 p = none := s2.notIn e2 e5
        have r2 := e6.mono s2.exG
        refine ⟨p, vs, k, n, rfl, rfl, hp2, by rw [r2.length]; exact en, ?_⟩
        exact h2 σ G2 _ (R2.upOwn i q e1 hp2 (r2.set (d1.mono s2.exG) n) hg2 e3 e4) (Sub.trans s1.exG s2.exG)
    | _ => exact (show False from h2).elim
  · exact h1.elim
/-- x[j] += e, ints -/
def mAugIx (i : Nat) (mi mv : EnvM → Bag → Res PD) : EnvM → Bag → SRes := fun env B => match env[i]? with
  | some (some (.own ys)) => (mi env B).s env fun j B1 => (match j with
    | .int k => if 0 ≤ k ∧ k < 2 ^ 63 then (match ixN ys.length k with
      | some n => (match ys[n]? with
        | some (.int a) => (mv env B1).s env fun d B2 => (match d with
          | .int b => .nx (env.set i (some (.own (ys.set n (.int (a + b)))))) B2
          | _ => .bad)
        | _ => .bad)
      | none => .bad) else .bad
    | _ => .bad)
  | _ => .bad
theorem get_own : PGet X (fun x y H Q => ∃ (p : Addr) (xs : List V) (k : Int) (n : Nat) (v : V), x = .ref p ∧ y = .int k ∧ H p = some (.lst xs) ∧ 0 ≤ k ∧ k < 2 ^ 63 ∧ k.toNat = n ∧ xs[n]? = some v ∧ Q v H) := by
  intro pins s σ H o i ov iv Q I ro ri h
  obtain ⟨p, xs, k, n, v, rfl, rfl, hp, k0, k1, rfl, hx, q⟩ := h
  cases ro
  obtain ⟨t, rfl⟩ := ri
  obtain ⟨its, r, pl, hz⟩ := I.list (SqL.of hp)
  obtain ⟨u, hu, ru⟩ := r.get hx
  have hn := line63
  obtain ⟨n, rfl⟩ := Int.eq_ofNat_of_zero_le k0
  have hk : n < xs.length := (List.getElem?_eq_some_iff.mp hx).1
  exact wpAny_getItem_list pl.isList (by omega) (by omega) (by simpa using hu) ⟨v, H, I, ru, q⟩
theorem ixN_pos {n : Nat} {k : Int} {j : Nat} (h : ixN n k = some j) (k0 : 0 ≤ k) : k.toNat = j := by
  unfold ixN at h
  rw [if_pos k0] at h
  by_cases h1 : k < n
  · rw [if_pos h1] at h; exact Option.some.inj h
  · rw [if_neg h1] at h; cases h
theorem sd_augIx (i : Nat) {x : Str} {ei ev : Expr} {ti tv : TE} {mi mv : EnvM → Bag → Res PD} {p1 p2 pos : Pos} (hi : ED X W ei ti mi) (hv' : ED X W ev tv mv) (hN : X.N[i]? = some x := by rfl) (hv : Vis X.env.scope x := by first | exact Or.inl rfl | exact Or.inr (Or.inl rfl) | exact Or.inr (Or.inr rfl))
    (hd : (x == ("__debug__" : Str)) = false := by decide) (hcd : (x == ("__classdict__" : Str)) = false := by decide)
    (ha : ∀ ov iv new, augStore ei ov iv new = (do holding [new, ov, iv] (setItem ov iv new); release [new, ov, iv] []; pure .next) := by intros; rfl) :
    SD X W (.AugAssign (.Subscript (.Name x p1) ei p2) .Add ev pos) (tAugS (tVar i) ti tv (fun x y H Q => ∃ (p : Addr) (xs : List V) (k : Int) (n : Nat) (v : V), x = .ref p ∧ y = .int k ∧ H p = some (.lst xs) ∧ 0 ≤ k ∧ k < 2 ^ 63 ∧ k.toNat = n ∧ xs[n]? = some v ∧ Q v H) (ipI fun i j => i + j) rSetL) (mAugIx i mi mv) := by
  refine ⟨ps_augS (pe_var hN hv hd hcd) hi.pe get_own hv'.pe ip_add set_list ha, fun w G0 H0 σ env G H B D R h => ?_⟩
  unfold mAugIx at h
  split at h
  · rename_i ys q
    obtain ⟨p, vs, e1, e2, e3, e4, e5, e6⟩ := own_at R q
    refine ⟨_, e1, ?_⟩
    refine hi.sem w G0 H0 σ env G H B _ R (PostS.bind R (Sub.refl _) h fun j B1 y G1 H1 s1 o1 d1 h1 => ?_)
    have R1 := R.step s1 o1
    cases j with
    | int k =>
      cases d1
      have h1 : PostS X.K X.mg w G0 H0 G W D (if 0 ≤ k ∧ k < 2 ^ 63 then (match ixN ys.length k with
        | some n => (match ys[n]? with
          | some (.int a) => (mv env B1).s env fun d B2 => (match d with
            | .int b => .nx (env.set i (some (.own (ys.set n (.int (a + b)))))) B2
            | _ => .bad)
          | _ => .bad)
        | none => .bad) else .bad) := h1
      by_cases hk : 0 ≤ k ∧ k < 2 ^ 63
      · rw [if_pos hk] at h1
        cases en : ixN ys.length k with
        | none => simp only [en] at h1; exact h1.elim
        | some n =>
          simp only [en] at h1
          cases ea : ys[n]? with
          | none => simp only [ea] at h1; exact h1.elim
          | some da =>
            simp only [ea] at h1
            cases da with
            | int a =>
              have hp1 := s1.keep p _ e4.one (fun _ z => by cases z) e5
              have hg1 : G1 p = none := s1.notIn e2 e5
              have r1 := e6.mono s1.exG
              obtain ⟨u, u1, u2⟩ := r1.get ea
              cases u2
              refine ⟨p, vs, k, n, .int a, rfl, rfl, hp1, hk.1, hk.2, ixN_pos en hk.1, u1, ?_⟩
              refine hv'.sem w G0 H0 σ env G1 H1 B1 _ R1 (PostS.bind R1 s1.exG h1 fun d B2 z G2 H2 s2 o2 d2 h2 => ?_)
              cases d with
              | int b =>
                cases d2
                have R2 := R1.step s2 o2
                have hp2 := s2.keep p _ e4.one (fun _ z => by cases z) hp1
                have hg2 : G2 p = none := s2.notIn hg1 hp1
                have r2 := r1.mono s2.exG
                refine ⟨a, b, rfl, rfl, p, vs, k, n, rfl, rfl, hp2, by rw [r2.length]; exact en, ?_⟩
                exact h2 σ G2 _ (R2.upOwn i q e1 hp2 (r2.set (.int (a + b)) n) hg2 e3 e4) (Sub.trans s1.exG s2.exG)
              | _ => exact (show False from h2).elim
            | _ => exact (show False from h1).elim
      · rw [if_neg hk] at h1; exact h1.elim
    | _ => exact (show False from h1).elim
  · exact h.elim
/-! ### t * k -/
def repTP : PD → PD → Option PD
  | .tuple xs, .int j => if xs ≠ [] ∧ 2 ≤ j ∧ j ≤ 1000 ∧ xs.length ≤ 1000 then some (.tuple (List.replicate j.toNat xs).flatten) else none
  | _, _ => none
def mulAP : PD → PD → Option PD := gOr mulP repTP
theorem opD_repT : OpD X (ZT.rRepP X.K) repTP := by
  intro w G H B x y d e z Q o dx dy hz k
  unfold repTP at hz
  split at hz
  · obtain ⟨⟨h0, h1, h2, h3⟩, rfl⟩ := some_if hz
    cases dy
    cases dx with
    | tup hx rx =>
      refine ⟨_, _, _, rfl, rfl, subT o.sub hx, fun e => h0 ?_, h1, h2, by rw [rx.length]; exact h3, fun p ob hp hob => ?_⟩
      · subst e
        cases rx
        rfl
      · exact k _ _ _ (Step.new o.sub hp) (o.new hp) (.tup (PT.new hob) ((rx.rep _).mono (new_sub o.sub hp)))
  · cases hz
abbrev rMulA (K : Fg) : R2 := rOr (rOr (rI CMul fun i j => .int (i * j)) rRep) (ZT.rRepP K)
theorem ed_mulK (K : Fg) {a b : Expr} {ta tb : TE} {ma mb : EnvM → Bag → Res PD} {pos : Pos} (ha : ED X W a ta ma) (hb : ED X W b tb mb) (hK : X.K = K := by rfl) : ED X W (.BinOp a .Mult b pos) (tOp (rMulA K) ta tb) (mOp mulAP ma mb) := by
  subst hK
  exact ed_op (opR_or op_mulU ZT.op_repP) (opD_or opD_mul opD_repT) ha hb
end
end DL
set_option Elab.async false
set_option linter.all false
set_option maxRecDepth 100000
set_option maxHeartbeats 4000000
/-! ZS: set(..) of a list or a tuple of texts, sorted of it. -/
namespace ZS
open PySem PySem.Spec PyProof.Rows L2 HT
def keyS (e : Int × Value) : Str := match e.2 with | .str k _ => k | _ => Str.empty
def GoodS (w : World) (e : Int × Value) : Prop := ∃ k tk, e.2 = Value.str k tk ∧ e.1 = hashStr w k
def SetS (w : World) (h : Heap) (a : Addr) (S : Str → Bool) (n : Nat) : Prop :=
  ∃ o es ep t, h.get? a = some o ∧ o.ExactSet ∧ o.data = .set es ep t ∧ (∀ e ∈ es.toList, GoodS w e) ∧ (es.toList.map keyS).Nodup ∧ (∀ k, S k = true ↔ k ∈ es.toList.map keyS) ∧
    es.size < scanBound ∧ t.fits es.size = true ∧ es.size = n ∧ Ris t.place.toList ∧ (w.params.followText "set-order" = true ∨ t.led = true)

section
variable {P : Program} {w : World} {h h' : Heap} {a : Addr} {S : Str → Bool} {n : Nat}

theorem SetS.at (R : SetS w h a S n) (k : ∀ o, h.get? a = some o → h'.get? a = some o) : SetS w h' a S n := by
  obtain ⟨o, es, ep, t, ho, r⟩ := R
  exact ⟨o, es, ep, t, k o ho, r⟩
theorem SetS.lt (R : SetS w h a S n) : a < h.objs.size := by
  obtain ⟨o, es, ep, t, ho, r⟩ := R
  exact Heap.lt_size ho
theorem SetS.congr {S' : Str → Bool} (R : SetS w h a S n) (e : ∀ k, S' k = S k) : SetS w h a S' n := by
  have q : S' = S := funext e
  rw [q]; exact R
theorem good_elems {l : List (Int × Value)} (g : ∀ e ∈ l, GoodS w e) : ElemsOf (strKind P w) l := fun e he => by
  obtain ⟨k, tk, h1, h2⟩ := g e he
  exact ⟨⟨k, by rw [h1]; exact strKind_is P w k tk, h2⟩, by rw [h1] <;> rfl⟩
theorem good_is {e : Int × Value} (g : GoodS w e) (k : Str) : (strKind P w).is k e.2 = true ↔ keyS e = k := by
  obtain ⟨k0, tk, h1, _⟩ := g
  unfold keyS
  rw [h1]
  exact ⟨fun z => ((strKind P w).inj (.str k0 tk) k0 k (strKind_is P w k0 tk) z), fun z => by rw [← z]; exact strKind_is P w k0 tk⟩
theorem good_mem {l : List (Int × Value)} (g : ∀ e ∈ l, GoodS w e) (k : Str) : k ∈ l.map keyS ↔ ∃ e ∈ l, (strKind P w).is k e.2 = true := by
  rw [List.mem_map]
  constructor
  · rintro ⟨e, he, q⟩
    exact ⟨e, he, (good_is (g e he) k).2 q⟩
  · rintro ⟨e, he, q⟩
    exact ⟨e, he, (good_is (g e he) k).1 q⟩
theorem SetS.setOf (R : SetS w h a S n) : h.SetOf (strKind P w) a S n := by
  obtain ⟨o, es, ep, t, ho, hx, hd, g, nd, hm, hb, hf, hn, _⟩ := R
  exact ⟨o, es, ep, t, ho, hx, hd, good_elems g, fun k => (hm k).trans (good_mem g k), hb, hf, hn⟩
end

section
variable {P : Program} {w : World} {A : Around} {E : Value → Shared → Prop} {s : Shared} {a : Addr} {S : Str → Bool} {n : Nat}

/-! ### add -/
theorem store_at {h : Heap} {a : Addr} {o : Obj} {es es' : Array (Int × Value)} {ep : Nat} {t t' : SetTable} (ho : h.get? a = some o) (hd : o.data = .set es ep t) :
    (h.update a (Obj.putSet es' t')).get? a = some { o with data := .set es' (ep + 1) t' } := by
  have q := Heap.get?_update_self (Obj.putSet es' t') ho (by rw [putSet_of es' t' hd]; rfl)
  rw [putSet_of es' t' hd] at q
  exact q

theorem setS_add_tail {g : Bool → Sem Unit} (hg : ∀ (b : Bool) (s₁ : Shared) (Q' : Unit → Shared → Prop), Q' () s₁ → wpAny (model P w) A (g b) Q' E s₁)
    {o : Obj} {es : Array (Int × Value)} {ep : Nat} {t : SetTable} (ho : s.heap.get? a = some o) (hex : o.ExactSet) (hd : o.data = .set es ep t)
    {es1 : Array (Int × Value)} {t2 : SetTable} {S' : Str → Bool} (g1 : ∀ e ∈ es1.toList, GoodS w e) (nd1 : (es1.toList.map keyS).Nodup) (m1 : ∀ k, S' k = true ↔ k ∈ es1.toList.map keyS)
    (hb1 : es1.size < scanBound) (hf2 : t2.fits es1.size = true) (hr : Ris t2.place.toList) (hl : w.params.followText "set-order" = true ∨ t2.led = true) {wasDummy : Bool} {R : Option Bool → Shared → Prop}
    (hR : ∀ h', Heap.SameBut a s.heap h' → SetS w h' a S' es1.size → R (some true) { s with heap := h' }) :
    wpAny (model P w) A (do
        storeSet a es1 t2
        if (!wasDummy && t2.tooFull) = true then do
            g (relayAll t2 es1 (SetTable.grown es1.size)).2.2
            storeSet a (relayAll t2 es1 (SetTable.grown es1.size)).1 (relayAll t2 es1 (SetTable.grown es1.size)).2.1
            pure (some true)
          else pure (some true)) R E s := by
  refine wpAny_bind (wpAny_storeSet_of ho hd ?_ (fits_of_scanBound hb1))
  have ho1 := store_at (es' := es1) (t' := t2) ho hd
  have sb1 := Heap.SameBut.update s.heap a (Obj.putSet es1 t2)
  split
  · have pm := relayAll_perm t2 es1 (SetTable.grown es1.size)
    have hf3 := relayAll_fits t2 es1 (SetTable.grown es1.size)
    have hr3 := relayAll_ris t2 es1 (SetTable.grown es1.size)
    have hl3 := relayAll_led t2 es1 (SetTable.grown es1.size)
    generalize relayAll t2 es1 (SetTable.grown es1.size) = Z at pm hf3 hr3 hl3 ⊢
    obtain ⟨es2, t3, gave⟩ := Z
    dsimp only at pm hf3 hr3 hl3 ⊢
    have hsz : es2.size = es1.size := by rw [← Array.length_toList, pm.length_eq, Array.length_toList]
    have hb2 : es2.size < scanBound := by rw [hsz]; exact hb1
    refine wpAny_bind (hg _ _ _ ?_)
    refine wpAny_bind (wpAny_storeSet_of ho1 rfl ?_ (fits_of_scanBound hb2))
    have ho2 := store_at (es' := es2) (t' := t3) ho1 rfl
    refine wpAny_pure (hR _ (sb1.trans (Heap.SameBut.update _ a _)) ?_)
    exact ⟨_, es2, _, t3, ho2, hex, rfl, fun e he => g1 e (pm.mem_iff.mp he), (pm.map keyS).nodup_iff.mpr nd1, fun k => (m1 k).trans (pm.map keyS).mem_iff.symm, hb2, hf3, hsz, hr3,
      hl.imp id fun z => by rw [hl3]; exact z⟩
  · exact wpAny_pure (hR _ sb1 ⟨_, es1, _, t2, ho1, hex, rfl, g1, nd1, m1, hb1, hf2, rfl, hr, hl⟩)

theorem setS_add_hashed {k : Str} {tk : Tok} {Q : Bool → Shared → Prop} (R : SetS w s.heap a S n) (room : n + 1 < scanBound)
    (hQ : ∀ h', Heap.SameBut a s.heap h' → SetS w h' a (fun j => S j || decide (j = k)) (if S k = true then n else n + 1) → Q (!S k) { s with heap := h' }) :
    wpAny (model P w) A (setAddHashed a (.str k tk) ((strKind P w).hash k)) Q E s := by
  obtain ⟨o, es, ep, t, ho, hex, hd, g, nd, hm, hb, hf, hn, hr, hl⟩ := R
  have hkey : (strKind P w).is k (.str k tk) = true := strKind_is P w k tk
  have hsc : (Value.str k tk).scannable = true := rfl
  have hel : ElemsOf (strKind P w) es.toList := good_elems g
  unfold setAddHashed setAddHashedIn
  refine wpAny_holding (wpAny_bind (wpAny_setState_of ho hd hf ?_))
  dsimp only
  rw [byScan_of hsc hb hel]
  simp only [↓reduceIte]
  unfold setAddByScan
  refine wpAny_bind ?_
  refine wpAny_bind (wpAny_rule ?_)
  refine wpAny_bind (wpAny_setScan_of hkey ho hd hf hel ?_)
  cases hfi : List.findIdx? (fun e => (strKind P w).is k e.2) es.toList with
  | some j =>
    dsimp only
    obtain ⟨hj, pj, _⟩ := List.findIdx?_eq_some_iff_getElem.mp hfi
    have hSk : S k = true := (hm k).2 ((good_mem (P := P) (w := w) g k).2 ⟨es.toList[j], List.getElem_mem hj, pj⟩)
    refine wpAny_pure (wpAny_pure ?_)
    have q := hQ s.heap (Heap.SameBut.refl a s.heap) ⟨o, es, ep, t, ho, hex, hd, g, nd, fun i => by
      rw [Bool.or_eq_true, decide_eq_true_eq, ← hm i]
      exact ⟨fun z => z.elim id (fun e => e ▸ hSk), .inl⟩, hb, hf, by rw [if_pos hSk]; exact hn, hr, hl⟩
    rw [hSk] at q
    exact q
  | none =>
    dsimp only
    have hnk : k ∉ es.toList.map keyS := fun z => by
      obtain ⟨e, he, q⟩ := (good_mem (P := P) (w := w) g k).1 z
      have c := List.findIdx?_eq_none_iff.mp hfi e he
      rw [q] at c
      cases c
    have hSk : S k = false := by
      cases q : S k with
      | false => rfl
      | true => exact absurd ((hm k).1 q) hnk
    have hgw : ∀ (b : Bool) {s₁ : Shared} {Q' : Unit → Shared → Prop}, Q' () s₁ → wpAny (model P w) A (match b with | true => rule "set.scan.the-table-gave-way" | false => pure ()) Q' E s₁ :=
      fun b s₁ Q' q => by cases b <;> first | exact wpAny_pure q | exact wpAny_rule q
    have pm := layNew_perm t es ((strKind P w).hash k) (.str k tk)
    have hf1 := layNew_fits t es ((strKind P w).hash k) (.str k tk)
    have hr1 := layNew_ris t es ((strKind P w).hash k) (.str k tk) hr
    have hl1 := layNew_led t es ((strKind P w).hash k) (.str k tk)
    generalize layNew t es ((strKind P w).hash k) (.str k tk) = Z at pm hf1 hr1 hl1 ⊢
    obtain ⟨es1, t1, wasDummy, gave⟩ := Z
    dsimp only at pm hf1 hr1 hl1 ⊢
    rw [Array.toList_push] at pm
    have pc : es1.toList.Perm (((strKind P w).hash k, Value.str k tk) :: es.toList) := pm.trans (List.perm_append_singleton _ _)
    have pk : (es1.toList.map keyS).Perm (k :: es.toList.map keyS) := pc.map keyS
    have g1 : ∀ e ∈ es1.toList, GoodS w e := fun e he => by
      rcases List.mem_cons.mp (pc.mem_iff.mp he) with z | z
      · rw [z]; exact ⟨k, tk, rfl, rfl⟩
      · exact g e z
    have nd1 : (es1.toList.map keyS).Nodup := pk.nodup_iff.mpr (List.nodup_cons.mpr ⟨hnk, nd⟩)
    have m1 : ∀ i, (S i || decide (i = k)) = true ↔ i ∈ es1.toList.map keyS := fun i => by
      rw [Bool.or_eq_true, decide_eq_true_eq, hm i, pk.mem_iff, List.mem_cons]
      exact Or.comm
    have hsz : es1.size = n + 1 := by rw [← Array.length_toList, pc.length_eq, List.length_cons, Array.length_toList, hn]
    have hb1 : es1.size < scanBound := by rw [hsz]; exact room
    have hled : w.params.followText "set-order" = true ∨ t1.led = true := hl.imp id fun z => by rw [hl1]; exact z
    have fin : ∀ h', Heap.SameBut a s.heap h' → SetS w h' a (fun j => S j || decide (j = k)) es1.size → Q true { s with heap := h' } := fun h' sb r => by
      have q := hQ h' sb
      rw [hSk] at q
      rw [hsz] at r
      exact q r
    refine wpAny_bind (hgw _ ?_)
    split
    · refine wpAny_bind ?_
      rw [hashByValue_scannable 8 hsc]
      refine wpAny_pure ?_
      refine setS_add_tail ?_ ho hex hd g1 nd1 m1 hb1 ?_ ?_ ?_ ?_
      · intro b s₁ Q' q; cases b <;> first | exact wpAny_pure q | exact wpAny_rule q
      · first | (split <;> first | exact hf1 | exact SetTable.fits_plain_off hf1) | exact hf1
      · first | (split <;> exact hr1) | exact hr1
      · first | (split <;> exact hled) | exact hled
      · intro h' sb r; dsimp only; exact wpAny_pure (fin h' sb r)
    · refine wpAny_bind (wpAny_pure ?_)
      simp only [↓reduceIte]
      refine setS_add_tail ?_ ho hex hd g1 nd1 m1 hb1 hf1 hr1 hled ?_
      · intro b s₁ Q' q; cases b <;> first | exact wpAny_pure q | exact wpAny_rule q
      · intro h' sb r; dsimp only; exact wpAny_pure (fin h' sb r)

end
theorem setS_new_at {w : World} {h : Heap} {a : Addr} {ns : List Str} (ho : h.get? a = some { cls := .type "set", dict := none, data := .set #[] 0 (.fresh 0 0 (!w.params.followText "set-order")) }) : SetS w h a (fun j => decide (j ∈ ns.take 0)) 0 :=
  ⟨_, #[], 0, _, ho, ⟨rfl, rfl, rfl⟩, rfl, (fun e he => nomatch he), List.Pairwise.nil, (fun k => ⟨fun z => by rw [List.take_zero] at z; exact absurd (of_decide_eq_true z) List.not_mem_nil, fun z => nomatch z⟩), (by decide), (by rfl), rfl, List.Pairwise.nil, by
    show _ ∨ (!w.params.followText "set-order") = true
    cases w.params.followText "set-order"
    · exact .inr rfl
    · exact .inl rfl⟩
section
variable {P : Program} {w : World} {A : Around} {E : Value → Shared → Prop} {s : Shared}
theorem set_update_strs {I : Addr} {fp wr : List Addr} {G : Array GenState → Array GenState → Prop} {n : Nat} {Pv : Nat → Value → Prop} {St : Nat → Shared → Prop} {R : Result → Shared → Prop}
    (W : WalksS P w A.in1 I fp wr G n Pv St) (S : Addr) (hSf : S ∉ fp) (ns : List Str) (hn : n = ns.length) (hb : ns.length + 1 < scanBound) (hval : ∀ i v, Pv i v → ∃ k t, ns[i]? = some k ∧ v = .str k t) :
    ∀ (k i : Nat) (s : Shared), n - i = k → i ≤ n → St i s → (∃ c, c ≤ i ∧ SetS w s.heap S (fun j => decide (j ∈ ns.take i)) c) →
      (∀ s' c, Moved (S :: wr) G s s' → c ≤ n → SetS w s'.heap S (fun j => decide (j ∈ ns)) c → R (.ok (.ret .none)) s') →
      codeAny (model P w) A (.builtin "set.update.loop" ⟨[.ref S, .ref I], []⟩) R s := by
  have hSw : S ∉ wr := fun h => hSf (W.sub _ h)
  have hsub : ∀ b ∈ wr, b ∈ S :: wr := fun b hb => List.mem_cons_of_mem _ hb
  intro k
  induction k with
  | zero =>
    intro i s hk' hi hst ⟨c, hc, hS⟩ hR
    have hin : i = n := by omega
    subst hin
    refine codeAny_builtin F.entry_set_update_loop ?_
    rw [Around.under_plainId F.plain_set_update_loop _]
    show wpAny _ A.in1 (pyNext (.ref I) >>= _) _ _ s
    refine wpAny_bind (W.done s _ _ hst fun s' hm => ?_)
    show wpAny _ A.in1 (ret Value.none) _ _ s'
    have e : ns.take i = ns := List.take_of_length_le (by omega)
    rw [e] at hS
    exact wpAny_pure (hR s' c (hm.mono hsub) hc (hS.at fun o e => hm.heap S o hSw e))
  | succ k ih =>
    intro i s hk' hi hst ⟨c, hc, hS⟩ hR
    have hlt : i < n := by omega
    refine codeAny_builtin F.entry_set_update_loop ?_
    rw [Around.under_plainId F.plain_set_update_loop _]
    show wpAny _ A.in1 (pyNext (.ref I) >>= _) _ _ s
    refine wpAny_bind (W.item i s _ _ hlt hst fun v s' hP hst' hm => ?_)
    obtain ⟨z, t, hz, rfl⟩ := hval i v hP
    have hS' : SetS w s'.heap S (fun j => decide (j ∈ ns.take i)) c := hS.at fun o e => hm.heap S o hSw e
    show wpAny _ A.in1 (holding [Value.str z t] (setAdd S (.str z t)) >>= _) _ _ s'
    refine wpAny_bind (wpAny_holding ?_)
    unfold setAdd
    refine wpAny_holding ?_
    refine wpAny_bind ((strKind P w).pyHash (k := z) (strKind_is _ _ _ _) ?_)
    refine setS_add_hashed (s := { s' with toks := s'.toks + 1 }) hS' (by omega) fun h' hsb hS2 => ?_
    have hS3 : SetS w h' S (fun j => decide (j ∈ ns.take (i + 1))) (if decide (z ∈ ns.take i) = true then c else c + 1) := hS2.congr fun j => by
      rw [List.take_add_one, hz, Bool.eq_iff_iff, Bool.or_eq_true, decide_eq_true_eq, decide_eq_true_eq, decide_eq_true_eq, List.mem_append]
      exact ⟨fun q => q.elim .inl fun q => .inr (List.mem_singleton.mp q), fun q => q.elim .inl fun q => .inr (List.mem_singleton.mpr q)⟩
    have hc3 : (if decide (z ∈ ns.take i) = true then c else c + 1) ≤ i + 1 := by
      split <;> omega
    refine wpAny_pure ⟨plainId_quiet F.plain_set_update_loop _, ih (i + 1) _ (by omega) hlt (W.frame _ s' _ _ hst' (Nat.le_succ _) fun b hb o e => ?_) ⟨_, hc3, hS3⟩ fun s'' c2 hm'' hc'' hS'' => ?_⟩
    · rw [hsb.2 b (fun h : b = S => hSf (by rw [← h]; exact hb))]; exact e
    · refine hR s'' c2 (Moved.trans W.gtrans ((hm.mono hsub).then_heap (Nat.le_succ _) fun b o hb e => ?_) hm'') hc'' hS''
      rw [hsb.2 b (fun h : b = S => hb (by rw [h]; exact List.mem_cons_self))]; exact e

theorem str_at : ∀ {vs : List Value} {ns : List Str}, StrsAre vs ns → ∀ (i : Nat) (v : Value), i < ns.length → vs[i]? = some v → ∃ k t, ns[i]? = some k ∧ v = .str k t
  | _, _, .nil, i, v, hi, hv => by simp at hv
  | _, _, .cons y k r, 0, v, hi, hv => by
    cases hv
    exact ⟨y, k, rfl, rfl⟩
  | _, _, .cons y k r, i + 1, v, hi, hv => by
    obtain ⟨k', t', h1, h2⟩ := str_at r i v (by simpa using hi) (by simpa using hv)
    exact ⟨k', t', by simpa using h1, h2⟩
theorem strs_length : ∀ {vs : List Value} {ns : List Str}, StrsAre vs ns → vs.length = ns.length
  | _, _, .nil => rfl
  | _, _, .cons y k r => by simp [strs_length r]
end
end ZS
set_option Elab.async false
set_option linter.all false
set_option maxRecDepth 100000
set_option maxHeartbeats 4000000
/-! ZS: set(..) of a list or a tuple of texts, sorted of it. -/
namespace ZS
open PySem PySem.Spec PyProof.Rows L2 HT
section
variable {P : Program} {w : World} {A : Around} {E : Value → Shared → Prop} {s : Shared}
set_option maxHeartbeats 3200000 in
theorem call_set_lstS {l : Addr} {items : Array Value} (ns : List Str) {Q : Value → Shared → Prop} (hh : A.handled = none) (hl : s.heap.IsList l items) (hit : StrsAre items.toList ns) (hb : ns.length + 1 < scanBound)
    (h : ∀ (h' : Heap) (tk c : Nat), SetS w h' s.heap.objs.size (fun j => decide (j ∈ ns)) c → c ≤ ns.length → (∀ b o, s.heap.get? b = some o → h'.get? b = some o) → Q (.ref s.heap.objs.size) { s with heap := h', toks := tk }) :
    wpAny (model P w) A (call (.type "set") [.ref l]) Q E s := by
  have hisz : items.size = ns.length := by
    have q := strs_length hit
    rw [Array.length_toList] at q
    exact q
  obtain ⟨c, tl, hmro⟩ := F.called_set.mro
  have hmade := F.called_set.made
  have hsub := F.called_set.sub
  refine wpAny_call (codeAny_of_tree ?_)
  show wpAny _ _ (callAny (.type "set") _) _ _ _
  refine wpAny_pure ⟨Code.quiet_builtin _ (by decide +kernel), codeAny_builtin F.entry_type_call ?_⟩
  rw [Around.under_plain (weight_type_call_type "set" [.ref l] []) rfl]
  have h1 := F.called_set.notType
  have h2 := F.called_set.canCreate
  have hct := F.typeCall_set_1 (.ref l)
  repeat (any_goals (first | assumption | wp_step))

  refine codeAny_mono (code_set_led1 (.ref l) (E := E) (Q₁ := fun obj s₁ => obj = .ref s.heap.objs.size ∧ s₁ = { s with heap := s.heap.push { cls := .type "set", dict := none, data := .set #[] 0 (.fresh 0 0 (!w.params.followText "set-order")) } }) ⟨rfl, rfl⟩) fun r s₁ hr => ?_
  cases r with
  | error e => exact hr
  | ok fl =>
    cases fl with
    | ret obj =>
      obtain ⟨rfl, rfl⟩ := hr
      have hS : (s.heap.push { cls := .type "set", dict := none, data := .set #[] 0 (.fresh 0 0 (!w.params.followText "set-order")) }).get? s.heap.objs.size = some { cls := .type "set", dict := none, data := .set #[] 0 (.fresh 0 0 (!w.params.followText "set-order")) } := Heap.get?_push_size _ rfl
      have hT : Shared.TypeIs { s with heap := s.heap.push { cls := .type "set", dict := none, data := .set #[] 0 (.fresh 0 0 (!w.params.followText "set-order")) } } (.ref s.heap.objs.size) "set" := ⟨_, hS, rfl⟩
      have hli := F.called_set.init.lookup
      have hbi := F.called_set.init.bind (.ref s.heap.objs.size)
      repeat (any_goals (first | assumption | wp_step))

      refine codeAny_mono (codeAny_call_builtin (R := wants (fun r s₂ => r = .none ∧ ∃ h' tk c, s₂ = { s with heap := h', toks := tk } ∧ SetS w h' s.heap.objs.size (fun j => decide (j ∈ ns)) c ∧ c ≤ ns.length ∧
          (∀ b o, s.heap.get? b = some o → h'.get? b = some o)) E) F.called_set.init.plain F.entry_set_init (check_set_init_1 hT ?_)) fun r₂ s₂ hr₂ => ?_
      · obtain ⟨ol, hol, hcl, nl, hdl⟩ := hl
        obtain ⟨ocls, odict, odata, oslots⟩ := ol
        simp only at hcl hdl
        subst hcl; subst hdl
        have hol' : (s.heap.push { cls := .type "set", dict := none, data := .set #[] 0 (.fresh 0 0 (!w.params.followText "set-order")) }).get? l = some { cls := .type "list", dict := odict, data := .seq items nl, slots := oslots } := Heap.get?_push_of_some _ hol
        have hsls := F.sub_list_set
        have hslf := F.sub_list_frozenset
        have hne : (Value.type "list" == Value.type "dict") = false := by decide
        have hl1 : (s.heap.push { cls := .type "set", dict := none, data := .set #[] 0 (.fresh 0 0 (!w.params.followText "set-order")) }).IsList l items := ⟨_, hol', rfl, nl, rfl⟩
        unfold Builtin.«set.__init__» noKeywords Builtin.Frozenset.updateFrom
        generalize hPI : pyIter = PI
        wp_walk
        subst hPI

        refine wpAny_pyIter_list hl1 ?_
        refine wpAny_bind (wpAny_runValue ?_)
        have hlS : l < s.heap.objs.size := Heap.lt_size hol
        have hh3 : A.in1.in1.in1.handled = none := by simp [hh]
        have hz1 : (s.heap.push { cls := .type "set", dict := none, data := .set #[] 0 (.fresh 0 0 (!w.params.followText "set-order")) }).objs.size = s.heap.objs.size + 1 := Heap.size_push ..
        have hneI : l ≠ (s.heap.push { cls := .type "set", dict := none, data := .set #[] 0 (.fresh 0 0 (!w.params.followText "set-order")) }).objs.size := by
          rw [Heap.size_push]; exact Nat.ne_of_lt (Nat.lt_succ_of_lt hlS)
        have hSf : s.heap.objs.size ∉ [(s.heap.push { cls := .type "set", dict := none, data := .set #[] 0 (.fresh 0 0 (!w.params.followText "set-order")) }).objs.size, l] := by
          rw [Heap.size_push]; simp only [List.mem_cons, List.mem_singleton, List.not_mem_nil, or_false, not_or]
          exact ⟨Nat.ne_of_lt (Nat.lt_succ_self _), Nat.ne_of_gt hlS⟩
        have hval : ∀ (i : Nat) (v : Value), items[i]? = some v → ∃ k t, ns[i]? = some k ∧ v = .str k t := fun i v hv => by
          have hi : i < ns.length := by rw [← hisz]; exact (Array.getElem?_eq_some_iff.mp hv).1
          exact str_at hit i v hi (by rw [Array.getElem?_toList]; exact hv)
        refine set_update_strs ((PySem.Walks.list hh3 _ l hneI items).toS) s.heap.objs.size
          hSf ns hisz hb hval (items.size - 0) 0 _ (by omega) (Nat.zero_le _)
          ⟨⟨_, Heap.get?_push_size _ rfl, rfl, rfl⟩, (hl1.push _)⟩ ?hS0 ?hR
        case hS0 =>
          have hget : ((s.heap.push { cls := .type "set", dict := none, data := .set #[] 0 (.fresh 0 0 (!w.params.followText "set-order")) }).push { cls := .type "list_iterator", data := .fields #[.ref l, .int 0 0] }).get? s.heap.objs.size
              = some { cls := .type "set", dict := none, data := .set #[] 0 (.fresh 0 0 (!w.params.followText "set-order")) } := Heap.get?_push_of_some _ hS
          exact ⟨0, Nat.le_refl 0, setS_new_at hget⟩
        case hR =>
          intro s' c' hm hc' hS'
          obtain ⟨h', g2, d', tk', os'⟩ := s'
          have eg : g2 = s.gens := hm.gens
          have ed : d' = s.drawn := hm.drawn
          have eo : os' = s.os := hm.os
          subst eg; subst ed; subst eo
          show wpAny _ _ _ _ _ _
          refine wpAny_pure ?_
          show wpAny _ _ (ret Value.none) _ _ _
          rw [hisz] at hc'
          refine wpAny_pure ⟨rfl, h', tk', c', rfl, hS', hc', fun b o e => ?_⟩
          have hb0 : b < s.heap.objs.size := Heap.lt_size e
          have hb1 : b ≠ s.heap.objs.size := Nat.ne_of_lt hb0
          have hb2 : b ≠ (s.heap.push { cls := .type "set", dict := none, data := .set #[] 0 (.fresh 0 0 (!w.params.followText "set-order")) }).objs.size := by
            rw [Heap.size_push]; exact Nat.ne_of_lt (Nat.lt_succ_of_lt hb0)
          exact hm.heap b o (by simp only [List.mem_cons, List.mem_singleton, List.not_mem_nil, or_false, not_or]; exact ⟨hb1, hb2⟩) (Heap.get?_push_of_some _ (Heap.get?_push_of_some _ e))

      · cases r₂ with
        | error e => exact hr₂
        | ok fl₂ =>
          cases fl₂ with
          | ret r =>
            obtain ⟨rfl, h', tk, c', rfl, hS', hc', hk'⟩ := hr₂
            repeat (any_goals (first | assumption | wp_step))
            exact h _ _ _ hS' hc' hk'
          | _ => exact hr₂.elim
    | _ => exact hr.elim
end
end ZS
set_option Elab.async false
set_option linter.all false
set_option maxRecDepth 100000
set_option maxHeartbeats 4000000
/-! ZS: set(..) of a list or a tuple of texts, sorted of it. -/
namespace ZS
open PySem PySem.Spec PyProof.Rows L2 HT
section
variable {P : Program} {w : World} {A : Around} {E : Value → Shared → Prop} {s : Shared}
set_option maxHeartbeats 3200000 in
theorem call_set_tupS {l : Addr} {items : Array Value} (ns : List Str) {Q : Value → Shared → Prop} (hh : A.handled = none) (hl : s.heap.IsTuple l items) (hit : StrsAre items.toList ns) (hb : ns.length + 1 < scanBound)
    (h : ∀ (h' : Heap) (tk c : Nat), SetS w h' s.heap.objs.size (fun j => decide (j ∈ ns)) c → c ≤ ns.length → (∀ b o, s.heap.get? b = some o → h'.get? b = some o) → Q (.ref s.heap.objs.size) { s with heap := h', toks := tk }) :
    wpAny (model P w) A (call (.type "set") [.ref l]) Q E s := by
  have hisz : items.size = ns.length := by
    have q := strs_length hit
    rw [Array.length_toList] at q
    exact q
  obtain ⟨c, tl, hmro⟩ := F.called_set.mro
  have hmade := F.called_set.made
  have hsub := F.called_set.sub
  refine wpAny_call (codeAny_of_tree ?_)
  show wpAny _ _ (callAny (.type "set") _) _ _ _
  refine wpAny_pure ⟨Code.quiet_builtin _ (by decide +kernel), codeAny_builtin F.entry_type_call ?_⟩
  rw [Around.under_plain (weight_type_call_type "set" [.ref l] []) rfl]
  have h1 := F.called_set.notType
  have h2 := F.called_set.canCreate
  have hct := F.typeCall_set_1 (.ref l)
  repeat (any_goals (first | assumption | wp_step))

  refine codeAny_mono (code_set_led1 (.ref l) (E := E) (Q₁ := fun obj s₁ => obj = .ref s.heap.objs.size ∧ s₁ = { s with heap := s.heap.push { cls := .type "set", dict := none, data := .set #[] 0 (.fresh 0 0 (!w.params.followText "set-order")) } }) ⟨rfl, rfl⟩) fun r s₁ hr => ?_
  cases r with
  | error e => exact hr
  | ok fl =>
    cases fl with
    | ret obj =>
      obtain ⟨rfl, rfl⟩ := hr
      have hS : (s.heap.push { cls := .type "set", dict := none, data := .set #[] 0 (.fresh 0 0 (!w.params.followText "set-order")) }).get? s.heap.objs.size = some { cls := .type "set", dict := none, data := .set #[] 0 (.fresh 0 0 (!w.params.followText "set-order")) } := Heap.get?_push_size _ rfl
      have hT : Shared.TypeIs { s with heap := s.heap.push { cls := .type "set", dict := none, data := .set #[] 0 (.fresh 0 0 (!w.params.followText "set-order")) } } (.ref s.heap.objs.size) "set" := ⟨_, hS, rfl⟩
      have hli := F.called_set.init.lookup
      have hbi := F.called_set.init.bind (.ref s.heap.objs.size)
      repeat (any_goals (first | assumption | wp_step))

      refine codeAny_mono (codeAny_call_builtin (R := wants (fun r s₂ => r = .none ∧ ∃ h' tk c, s₂ = { s with heap := h', toks := tk } ∧ SetS w h' s.heap.objs.size (fun j => decide (j ∈ ns)) c ∧ c ≤ ns.length ∧
          (∀ b o, s.heap.get? b = some o → h'.get? b = some o)) E) F.called_set.init.plain F.entry_set_init (check_set_init_1 hT ?_)) fun r₂ s₂ hr₂ => ?_
      · obtain ⟨ol, hol, hcl, nl, hdl⟩ := hl
        obtain ⟨ocls, odict, odata, oslots⟩ := ol
        simp only at hcl hdl
        subst hcl; subst hdl
        have hol' : (s.heap.push { cls := .type "set", dict := none, data := .set #[] 0 (.fresh 0 0 (!w.params.followText "set-order")) }).get? l = some { cls := .type "tuple", dict := odict, data := .seq items nl, slots := oslots } := Heap.get?_push_of_some _ hol
        have hsls := F.sub_tuple_set
        have hslf := F.sub_tuple_frozenset
        have hne : (Value.type "tuple" == Value.type "dict") = false := by decide
        have hl1 : (s.heap.push { cls := .type "set", dict := none, data := .set #[] 0 (.fresh 0 0 (!w.params.followText "set-order")) }).IsTuple l items := ⟨_, hol', rfl, nl, rfl⟩
        unfold Builtin.«set.__init__» noKeywords Builtin.Frozenset.updateFrom
        generalize hPI : pyIter = PI
        wp_walk
        subst hPI

        refine wpAny_pyIter_tuple hl1 ?_
        refine wpAny_bind (wpAny_runValue ?_)
        have hlS : l < s.heap.objs.size := Heap.lt_size hol
        have hh3 : A.in1.in1.in1.handled = none := by simp [hh]
        have hz1 : (s.heap.push { cls := .type "set", dict := none, data := .set #[] 0 (.fresh 0 0 (!w.params.followText "set-order")) }).objs.size = s.heap.objs.size + 1 := Heap.size_push ..
        have hneI : l ≠ (s.heap.push { cls := .type "set", dict := none, data := .set #[] 0 (.fresh 0 0 (!w.params.followText "set-order")) }).objs.size := by
          rw [Heap.size_push]; exact Nat.ne_of_lt (Nat.lt_succ_of_lt hlS)
        have hSf : s.heap.objs.size ∉ [(s.heap.push { cls := .type "set", dict := none, data := .set #[] 0 (.fresh 0 0 (!w.params.followText "set-order")) }).objs.size, l] := by
          rw [Heap.size_push]; simp only [List.mem_cons, List.mem_singleton, List.not_mem_nil, or_false, not_or]
          exact ⟨Nat.ne_of_lt (Nat.lt_succ_self _), Nat.ne_of_gt hlS⟩
        have hval : ∀ (i : Nat) (v : Value), items[i]? = some v → ∃ k t, ns[i]? = some k ∧ v = .str k t := fun i v hv => by
          have hi : i < ns.length := by rw [← hisz]; exact (Array.getElem?_eq_some_iff.mp hv).1
          exact str_at hit i v hi (by rw [Array.getElem?_toList]; exact hv)
        refine set_update_strs ((PySem.Walks.tuple hh3 _ l hneI items).toS) s.heap.objs.size
          hSf ns hisz hb hval (items.size - 0) 0 _ (by omega) (Nat.zero_le _)
          ⟨⟨_, Heap.get?_push_size _ rfl, rfl, rfl⟩, (hl1.push _)⟩ ?hS0 ?hR
        case hS0 =>
          have hget : ((s.heap.push { cls := .type "set", dict := none, data := .set #[] 0 (.fresh 0 0 (!w.params.followText "set-order")) }).push { cls := .type "tuple_iterator", data := .fields #[.ref l, .int 0 0] }).get? s.heap.objs.size
              = some { cls := .type "set", dict := none, data := .set #[] 0 (.fresh 0 0 (!w.params.followText "set-order")) } := Heap.get?_push_of_some _ hS
          exact ⟨0, Nat.le_refl 0, setS_new_at hget⟩
        case hR =>
          intro s' c' hm hc' hS'
          obtain ⟨h', g2, d', tk', os'⟩ := s'
          have eg : g2 = s.gens := hm.gens
          have ed : d' = s.drawn := hm.drawn
          have eo : os' = s.os := hm.os
          subst eg; subst ed; subst eo
          show wpAny _ _ _ _ _ _
          refine wpAny_pure ?_
          show wpAny _ _ (ret Value.none) _ _ _
          rw [hisz] at hc'
          refine wpAny_pure ⟨rfl, h', tk', c', rfl, hS', hc', fun b o e => ?_⟩
          have hb0 : b < s.heap.objs.size := Heap.lt_size e
          have hb1 : b ≠ s.heap.objs.size := Nat.ne_of_lt hb0
          have hb2 : b ≠ (s.heap.push { cls := .type "set", dict := none, data := .set #[] 0 (.fresh 0 0 (!w.params.followText "set-order")) }).objs.size := by
            rw [Heap.size_push]; exact Nat.ne_of_lt (Nat.lt_succ_of_lt hb0)
          exact hm.heap b o (by simp only [List.mem_cons, List.mem_singleton, List.not_mem_nil, or_false, not_or]; exact ⟨hb1, hb2⟩) (Heap.get?_push_of_some _ (Heap.get?_push_of_some _ e))

      · cases r₂ with
        | error e => exact hr₂
        | ok fl₂ =>
          cases fl₂ with
          | ret r =>
            obtain ⟨rfl, h', tk, c', rfl, hS', hc', hk'⟩ := hr₂
            repeat (any_goals (first | assumption | wp_step))
            exact h _ _ _ hS' hc' hk'
          | _ => exact hr₂.elim
    | _ => exact hr.elim
end
end ZS
set_option Elab.async false
set_option linter.all false
set_option maxRecDepth 100000
set_option maxHeartbeats 4000000
/-! ZS: set(..) of a list or a tuple of texts, sorted of it. -/
namespace ZS
open PySem PySem.Spec PyProof.Rows L2 HT
section
variable {P : Program} {w : World} {A : Around} {E : Value → Shared → Prop} {s : Shared}
theorem strs_of : ∀ (l : List Value), (∀ v ∈ l, ∃ k tk, v = Value.str k tk) → StrsAre l (l.map fun v => keyS (0, v))
  | [], _ => .nil
  | v :: r, h => by
    obtain ⟨k, tk, rfl⟩ := h v List.mem_cons_self
    exact .cons k tk (strs_of r fun u hu => h u (List.mem_cons_of_mem _ hu))
theorem sorted_setS {S : Str → Bool} {n : Nat} {a : Addr} {Q : Value → Shared → Prop} (R : SetS w s.heap a S n) (hh : A.handled = none) (h64 : n < 64)
    (hQ : ∀ s' p (out : Array Value) (c : Nat) (ns : List Str), (∀ b o, s.heap.get? b = some o → s'.heap.get? b = some o) → s'.gens = s.gens → s'.os = s.os → s.heap.objs.size ≤ p →
      s'.heap.get? p = some (seqObj "list" out c) → StrsAre out.toList ns → sortedS ns = true → ns.Nodup → (∀ k, k ∈ ns ↔ S k = true) → ns.length = n → Q (.ref p) s') :
    wpAny (model P w) A (call (.builtin "sorted") [.ref a]) Q E s := by
  obtain ⟨o, es, ep, t, ho, hex, hd, g, nd, hm, hb, hf, hn, hr, hl⟩ := R
  refine Calls.call_function_entry kind_sorted plain_sorted entry_sorted (args_sorted1 _) ?_
  unfold Builtin.«sorted»
  refine wpAny_bind (m := checkCount "sorted" 1 1 _) (wpAny_pure ?_)
  refine wpAny_bind (collect_set (A := A.in1) hh ⟨o, ho, hex.1, hd⟩ hf hb hr hl fun s1 vs k1 hz g1 o1 pm => ?_)
  have hvl : vs.length = n := by rw [pm.length_eq, List.length_map, Array.length_toList]; exact hn
  have hS : StrsAre vs (vs.map fun v => keyS (0, v)) := strs_of vs fun v hv => by
    obtain ⟨e, he, q⟩ := List.mem_map.mp (pm.mem_iff.mp hv)
    obtain ⟨k, tk, h1, _⟩ := g e he
    exact ⟨k, tk, by rw [← q]; exact h1⟩
  have pk : (vs.map fun v => keyS (0, v)).Perm (es.toList.map keyS) := by
    have q := pm.map fun v => keyS (0, v)
    rw [List.map_map] at q
    exact q
  refine wpAny_bind (wpAny_newList ?_ (by rw [hvl, sizeLine_eq]; omega))
  have hoL : (s1.heap.push (seqObj "list" vs.toArray 0)).get? s1.heap.objs.size = some (seqObj "list" vs.toArray 0) := Heap.get?_push_size _ rfl
  refine wpAny_bind (wpAny_holding (wpAny_call_entry slot_list_sort ⟨_, hoL, rfl⟩ entry_list_sort (list_sort_treeK strKind_oneLt hoL hS.keysOf (fun v₁ v₂ rest e => keyKind_strs (by rw [← e]; exact hS)) (by rw [hvl]; exact h64) fun st' hp hs => ⟨_, rfl, ?_⟩) (args_list_sort _)))
  obtain ⟨ns', a1, a2, a3⟩ := sorted_out_str hS hp hs
  obtain ⟨c, hc⟩ := sortedHeap_at (vs := vs) (out := ((arrOf st').map (·.2))) hoL
  have pn : ns'.Perm (es.toList.map keyS) := a2.trans pk
  refine wpAny_pure ⟨_, rfl, hQ _ s1.heap.objs.size _ c ns' (fun b u e => ?_) g1 o1 hz hc a1 a3 (pn.nodup_iff.mpr nd) (fun k => by rw [pn.mem_iff, ← hm k]) ?_⟩
  · have q := k1 b u e
    have hlt := Heap.lt_size q
    show (sortedHeap (s1.heap.push (seqObj "list" vs.toArray 0)) s1.heap.objs.size vs _).get? b = some u
    rw [sortedHeap_old (Nat.ne_of_lt hlt) (by rw [size_push']; exact Nat.lt_succ_of_lt hlt)]
    exact Heap.get?_push_of_some _ q
  · rw [pn.length_eq, List.length_map, Array.length_toList]; exact hn
end
end ZS
set_option Elab.async false
set_option linter.all false
set_option maxRecDepth 100000
set_option maxHeartbeats 2000000
/-! DL26: sorted(set(..)) of ints or texts. -/
namespace DL
open PySem L2
open ZT (PT)
section
variable {X : Cx} {W : WX}
def SetSO (w : World) (a : Addr) (S : Str → Bool) (n : Nat) : HO := .ext fun h => ZS.SetS w h a S n
theorem setSO_new {w : World} {P : Program} {H : Hp} {h : Heap} {a : Addr} {S : Str → Bool} {n : Nat} (R : ZS.SetS w h a S n) : ObjOk P w H h a (SetSO w a S n) := by
  have ⟨o, _, _, _, ho, _⟩ := R
  exact ⟨R, ⟨o, ho⟩, fun h1 h2 p k => ZS.SetS.at p k⟩
def rSetS (K : Fg) (w : World) : List V → Hp → VK → Prop := fun xs H Q => ∃ (l : Addr) (ns : List Str), xs = [V.ref l] ∧ (SqL K H l (ns.map V.str) ∨ SqT K H l (ns.map V.str)) ∧ ns.length + 1 < scanBound ∧ ∀ (p : Addr) (c : Nat), H p = none → c ≤ ns.length → Q (.ref p) (L2.upd H p (SetSO w p (fun j => decide (j ∈ ns)) c))
theorem cr_setS (hc : X.calm = true) : CallR X (.type "set") (rSetS X.K X.w) := by
  intro pins s σ H xs us Q I r h
  obtain ⟨l, ns, rfl, hq, hb, q⟩ := h
  obtain ⟨u, rfl, ru⟩ := r.one
  cases ru
  have hd := I.ok.hd hc
  have fin : ∀ (h' : Heap) (tk c : Nat), ZS.SetS X.w h' s.heap.objs.size (fun j => decide (j ∈ ns)) c → c ≤ ns.length → (∀ b o, s.heap.get? b = some o → h'.get? b = some o) → EP X pins σ Q (.ref s.heap.objs.size) { s with heap := h', toks := tk } := fun h' tk c R1 hcn k =>
    ⟨.ref s.heap.objs.size, L2.upd H s.heap.objs.size (SetSO X.w s.heap.objs.size (fun j => decide (j ∈ ns)) c), I.laid k (Nat.le_refl _) (setSO_new R1), rfl, q _ c (I.hok.fresh (Nat.le_refl _)) hcn⟩
  rcases hq with hq | hq
  · obtain ⟨its, rv, pl, hz⟩ := I.list hq
    exact ZS.call_set_lstS ns hd pl.isList rv.strs hb fin
  · obtain ⟨its, rv, pt, hz⟩ := I.tuple hq
    exact ZS.call_set_tupS ns hd (show s.heap.IsTuple l its.toArray from pt) rv.strs hb fin
def rSortedSetS (w : World) : List V → Hp → VK → Prop := fun vs H Q => ∃ (a : Addr) (S : Str → Bool) (n : Nat), vs = [V.ref a] ∧ H a = some (SetSO w a S n) ∧ n < 64 ∧
  ∀ (ns : List Str) (p : Addr), PyProof.Rows.sortedS ns = true → ns.Nodup → (∀ k : Str, k ∈ ns ↔ S k = true) → ns.length = n → H p = none → Q (.ref p) (L2.upd H p (.lst (ns.map V.str)))
theorem cr_sortedSetS (hc : X.calm = true) : CallR X (.builtin "sorted") (rSortedSetS X.w) := by
  intro pins s σ H vs us Q I r h
  obtain ⟨a, S, n, rfl, ha, h64, q⟩ := h
  have R : ZS.SetS X.w s.heap a S n := (I.hok a _ ha).1
  rw [Vals.ref1 r]
  refine ZS.sorted_setS R (I.ok.hd hc) h64 fun s' p out c ns k g o hp hg hi hs nd hm hl => ?_
  have hlen : (ns.map V.str).length ≤ sizeLine := by rw [List.length_map, hl, sizeLine_eq]; omega
  have hn : H p = none := I.hok.fresh hp
  have J : Inv X pins σ (L2.upd H p (.lst (ns.map V.str))) { s with heap := s'.heap, gens := s'.gens, drawn := s'.drawn, toks := s'.toks } :=
    I.call (ch := []) (Un.laid k hp hn) (I.hok.laid k hp ⟨hlen, out.toList, c, vals_of_strs hi, hg⟩) (by rw [g]; exact I.bare) (fun _ z => nomatch z)
  have e : s' = { s with heap := s'.heap, gens := s'.gens, drawn := s'.drawn, toks := s'.toks } := by
    cases s'
    cases s
    cases o
    rfl
  rw [e]
  exact ⟨.ref p, _, J, rfl, q ns p hs nd hm hl hn⟩
/-! by data -/
def riseS (xs : List Str) : List Str := sortS xs.eraseDups
theorem nodup_eraseDupsS : ∀ (n : Nat) (ns : List Str), ns.length ≤ n → ns.eraseDups.Nodup
  | 0, ns, h => by
    have e : ns = [] := List.length_eq_zero_iff.mp (by omega)
    rw [e, List.eraseDups_nil]
    exact List.nodup_nil
  | n + 1, [], _ => by rw [List.eraseDups_nil]; exact List.nodup_nil
  | n + 1, k :: r, h => by
    rw [List.eraseDups_cons]
    refine List.nodup_cons.mpr ⟨fun m => ?_, nodup_eraseDupsS n _ (Nat.le_trans (List.length_filter_le _ _) (by simpa using h))⟩
    have := List.mem_filter.mp (List.mem_eraseDups.mp m)
    simp at this
theorem riseS_eq {xs ms : List Str} (s : PyProof.Rows.sortedS ms = true) (nd : ms.Nodup) (k : ∀ i, i ∈ ms ↔ i ∈ xs) : ms = riseS xs :=
  sortS_only ((List.perm_ext_iff_of_nodup nd (nodup_eraseDupsS _ xs (Nat.le_refl _))).mpr fun a => (k a).trans List.mem_eraseDups.symm) s
def srtSetP (ds : List PD) : Option (List PD) := if ds.length < 64 then (match intsOf ds with
  | some ns => some ((riseI ns).map PyData.int)
  | none => (match unS ds with
    | some xs => some ((riseS xs).map PyData.str)
    | none => none)) else none
def mSrtSetA (m : EnvM → Bag → Res PD) : EnvM → Bag → Res PD := fun env B => (m env B).bind fun d B1 => match d with
  | .list ds => (match srtSetP ds with
    | some r => .ok (.list r) B1
    | none => .bad)
  | .tuple ds => (match srtSetP ds with
    | some r => .ok (.list r) B1
    | none => .bad)
  | _ => .bad
abbrev rSetA (K : Fg) (w : World) : List V → Hp → VK → Prop := fun xs H Q => rSetI K w xs H Q ∨ rSetS K w xs H Q
abbrev rSrtA (w : World) : List V → Hp → VK → Prop := fun xs H Q => rSortedSet w xs H Q ∨ rSortedSetS w xs H Q
theorem callR_or2 {v : Value} {r1 r2 : List V → Hp → VK → Prop} (h1 : CallR X v r1) (h2 : CallR X v r2) : CallR X v (fun xs H Q => r1 xs H Q ∨ r2 xs H Q) := by
  intro pins s σ H xs us Q I r h
  rcases h with h | h
  · exact h1 pins s σ H xs us Q I r h
  · exact h2 pins s σ H xs us Q I r h
def tSrtSetA (K : Fg) (w : World) (t : TE) : TE := tCB (rSrtA w) (tCons (tCB (rSetA K w) (tCons t tNil)) tNil)
theorem ed_srtSetA (K : Fg) (w : World) {e : Expr} {t : TE} {m : EnvM → Bag → Res PD} {p p2 pos pos2 : Pos} (hc : X.calm = true) (hm : X.mg "sorted" = none) (hm2 : X.mg "set" = none) (he : ED X W e t m) (hg : Gl X "sorted" := by rfl) (hg2 : Gl X "set" := by rfl)
    (h1 : starEach [.Call (.Name "set" p2) [e] [] pos2] X.env = (false, eval (.Call (.Name "set" p2) [e] [] pos2) X.env) :: starEach [] X.env := by rfl) (hpl : (backTo pos (starEach [] X.env)).any (·.1) = false := by rfl)
    (h2 : starEach [e] X.env = (false, eval e X.env) :: starEach [] X.env := by rfl) (hpl2 : (backTo pos2 (starEach [] X.env)).any (·.1) = false := by rfl) (hK : X.K = K := by rfl) (hw : X.w = w := by rfl) :
    ED X W (.Call (.Name "sorted" p) [.Call (.Name "set" p2) [e] [] pos2] [] pos) (tSrtSetA K w t) (mSrtSetA m) := by
  subst hK hw
  refine ⟨pe_callB (callR_or2 (cr_sortedSet hc) (cr_sortedSetS hc)) hg hm (by decide +kernel) (pa_cons (pe_callTy (callR_or2 (cr_setI hc) (cr_setS hc)) hg2 hm2 (by decide +kernel) (pa_cons he.pe pa_nil h2) (by decide) (by decide) h2 hpl2) pa_nil h1) (by decide) (by decide) h1 hpl, fun w G0 H0 σ env G H B Q R h => ?_⟩
  refine he.sem w G0 H0 σ env G H B _ R (PostR.bind h fun d B1 v G1 H1 s1 o1 d1 h1 => ?_)
  have goI : ∀ (l : Addr) (ns : List Int), v = .ref l → (SqL X.K H1 l (ns.map V.int) ∨ SqT X.K H1 l (ns.map V.int)) → ns.length < 64 → PostE X.K X.mg w G1 H1 (.ok (.list ((riseI ns).map PyData.int)) B1) Q (fun c d H' => W c d σ H') → rSetA X.K X.w [v] H1 (fun x H2 => rSrtA X.w [x] H2 Q) := by
    intro l ns e1 hq hl h2
    subst e1
    refine .inl ⟨l, ns, rfl, hq, by unfold scanBound; omega, fun p c hp hcn => .inl ⟨p, _, c, rfl, upd_same, by omega, fun ms q hms hk hlen hq' => ?_⟩⟩
    have e2 : ms = riseI ns := rise_eq hms fun i => by rw [hk i]; simp
    subst e2
    have s2 : Step w G1 H1 G1 (L2.upd H1 p (SetO X.w p (fun j => decide (j ∈ ns)) c)) := Step.newH hp
    have o2 := o1.newH (o := SetO X.w p (fun j => decide (j ∈ ns)) c) hp
    exact h2 _ _ _ (s2.trans (Step.new o2.sub hq')) (o2.new hq') (.lst upd_same (DRs.ints _))
  have goS : ∀ (l : Addr) (ns : List Str), v = .ref l → (SqL X.K H1 l (ns.map V.str) ∨ SqT X.K H1 l (ns.map V.str)) → ns.length < 64 → PostE X.K X.mg w G1 H1 (.ok (.list ((riseS ns).map PyData.str)) B1) Q (fun c d H' => W c d σ H') → rSetA X.K X.w [v] H1 (fun x H2 => rSrtA X.w [x] H2 Q) := by
    intro l ns e1 hq hl h2
    subst e1
    refine .inr ⟨l, ns, rfl, hq, by unfold scanBound; omega, fun p c hp hcn => .inr ⟨p, _, c, rfl, upd_same, by omega, fun ms q hms nd hk hlen hq' => ?_⟩⟩
    have e2 : ms = riseS ns := riseS_eq hms nd fun i => by rw [hk i]; simp
    subst e2
    have s2 : Step w G1 H1 G1 (L2.upd H1 p (SetSO X.w p (fun j => decide (j ∈ ns)) c)) := Step.newH hp
    have o2 := o1.newH (o := SetSO X.w p (fun j => decide (j ∈ ns)) c) hp
    exact h2 _ _ _ (s2.trans (Step.new o2.sub hq')) (o2.new hq') (.lst upd_same (DRs.strs _))
  have go : ∀ (l : Addr) (vs : List V) (ds : List PD), v = .ref l → (SqL X.K H1 l vs ∨ SqT X.K H1 l vs) → DRs X.K G1 vs ds → PostE X.K X.mg w G1 H1 (match srtSetP ds with | some r => .ok (.list r) B1 | none => .bad) Q (fun c d H' => W c d σ H') → rSetA X.K X.w [v] H1 (fun x H2 => rSrtA X.w [x] H2 Q) := by
    intro l vs ds e1 hq r h2
    unfold srtSetP at h2
    by_cases hl : ds.length < 64
    · rw [if_pos hl] at h2
      cases ei : intsOf ds with
      | some ns =>
        rw [ei] at h2
        have ed := intsOf_eq ei
        subst ed
        have ev := r.of_ints
        subst ev
        exact goI l ns e1 hq (by simpa using hl) h2
      | none =>
        rw [ei] at h2
        cases es : unS ds with
        | none => rw [es] at h2; exact h2.elim
        | some xs =>
          rw [es] at h2
          have ed := unS_eq es
          subst ed
          have ev := r.of_strs
          subst ev
          exact goS l xs e1 hq (by simpa using hl) h2
    · rw [if_neg hl] at h2; exact h2.elim
  cases d with
  | list ds =>
    cases d1 with
    | lst hx r => exact go _ _ _ rfl (.inl (subL o1.sub hx)) r h1
  | tuple ds =>
    cases d1 with
    | tup hx r => exact go _ _ _ rfl (.inr (subT o1.sub hx)) r h1
  | _ => exact (show False from h1).elim
end
end DL
set_option Elab.async false
set_option linter.all false
set_option maxRecDepth 100000
set_option maxHeartbeats 4000000
/-! DL27: sorted of a list of ints or of texts; x, y = a, b and x, y, z = a, b, c where a target may be captured, or a list of one's own. -/
namespace DL
open PySem L2 PySem.Spec PyProof.Rows
open ZT (PT)
section
variable {X : Cx} {W : WX}
def sortedAP : List PD → Option PD := fun ds => match sortedP ds with
  | some z => some z
  | none => sortedSP ds
abbrev rSortedA (K : Fg) : List V → Hp → VK → Prop := fun xs H Q => rSortedI K xs H Q ∨ rSortedS K xs H Q
theorem cr_sortedA : CallR X (.builtin "sorted") (rSortedA X.K) := callR_or2 cr_sortedI cr_sortedS
theorem ca_sortedA : CaD X (rSortedA X.K) sortedAP := by
  intro w G H B vs ds z Q o r hz k
  unfold sortedAP at hz
  cases e : sortedP ds with
  | some z' =>
    rw [e] at hz
    cases hz
    exact .inl (ca_sorted w G H B vs ds _ Q o r e k)
  | none =>
    rw [e] at hz
    exact .inr (ca_sortedS w G H B vs ds _ Q o r hz k)
/-- x, y = a, b : the targets are names of any kind -/
theorem sd_par2T (K : Fg) (i j : Nat) {x y : Str} {a b : Expr} {t t2 : TE} {m m2 : EnvM → Bag → Res SV} {px py pt pos : Pos} {kt k2 pt2} (hc : X.calm = true) (hN : X.N.Nodup) (ha : MD X W a t m) (hb : MD X W b t2 m2) (hi : X.N[i]? = some x := by rfl) (hj : X.N[j]? = some y := by rfl)
    (hx : Loc X.env.scope x := by first | exact Or.inl rfl | exact Or.inr rfl) (hy : Loc X.env.scope y := by first | exact Or.inl rfl | exact Or.inr rfl)
    (fx : X.fn x = true ∨ X.env.scope.names.lookup x = some .local := by first | exact .inl rfl | exact .inr rfl) (fy : X.fn y = true ∨ X.env.scope.names.lookup y = some .local := by first | exact .inl rfl | exact .inr rfl)
    (hs1 : starEach [a, b] X.env = (false, eval a X.env) :: starEach [b] X.env := by rfl) (hs2 : starEach [b] X.env = (false, eval b X.env) :: starEach [] X.env := by rfl)
    (h1 : (assignEach [.Name x px, .Name y py] X.env).map (·.2) = assign (.Name x px) X.env :: (assignEach [.Name y py] X.env).map (·.2) := by rfl) (h2 : (assignEach [.Name y py] X.env).map (·.2) = assign (.Name y py) X.env :: (assignEach [] X.env).map (·.2) := by rfl)
    (hl : (assignEach [.Name x px, .Name y py] X.env).length = 2 := by rfl) (hf : (assignEach [.Name x px, .Name y py] X.env).findIdx? (·.1) = none := by rfl)
    (hw : swappedStores [.Tuple [.Name x px, .Name y py] kt pt] (.Tuple [a, b] k2 pt2) X.env = pure none := by rfl)
    (hs : swapsWithSole [.Tuple [.Name x px, .Name y py] kt pt] (.Tuple [a, b] k2 pt2) pos.line X.env = pure false := by rfl)
    (ho : (assignEach [.Tuple [.Name x px, .Name y py] kt pt] X.env).map (·.2) = [assign (.Tuple [.Name x px, .Name y py] kt pt) X.env] := by rfl) (hK : X.K = K := by rfl) :
    SD X W (.Assign [.Tuple [.Name x px, .Name y py] kt pt] (.Tuple [a, b] k2 pt2) pos) (tAsg (ZT.tTupP (tCons t (tCons t2 tNil))) (gTup K 2 (gCons (gName i) (gCons (gName j) gNil)))) (mParM i j m m2) := by
  subst hK
  refine ⟨ps_asg (ZT.pe_tupP (pa_cons ha.pe (pa_cons hb.pe pa_nil hs2) hs1)) (pg_tup hc (pgs_cons (pg_name hN hi hx fx) (pgs_cons (pg_name hN hj hy fy) pgs_nil h2) h1) hl hf) hs hw ho, fun w G0 H0 σ env G H B D R h => ?_⟩
  refine ha.sem w G0 H0 σ env G H B _ R (PostS.bindM R (Sub.refl _) h fun sv B1 v G1 H1 s1 o1 d1 h1 => ?_)
  have R1 := R.step s1 o1
  refine hb.sem w G0 H0 σ env G1 H1 B1 _ R1 (PostS.bindM R1 s1.exG h1 fun sv2 B2 v2 G2 H2 s2 o2 d2 h2 => ?_)
  refine ⟨(by decide : 2 ≤ sizeLine), fun p ob hp hd => ⟨p, _, rfl, .inl ?_, rfl, v, _, rfl, v2, _, rfl, rfl, ?_⟩⟩
  · exact .inr ⟨ob, upd_same⟩
  · exact h2 _ G2 _ (((R.setSV s1 o1 i d1).setSV s2 o2 j d2).step (Step.newH hp) (o2.newH hp)) (Sub.trans s1.exG s2.exG)
def mParM3 (i j k : Nat) (m m2 m3 : EnvM → Bag → Res SV) : EnvM → Bag → SRes := fun env B => (m env B).s env fun sv B1 => (m2 env B1).s env fun sv2 B2 => (m3 env B2).s env fun sv3 B3 => .nx (((env.set i (some sv)).set j (some sv2)).set k (some sv3)) B3
/-- x, y, z = a, b, c -/
theorem sd_par3T (K : Fg) (i j k : Nat) {x y z : Str} {a b c : Expr} {t t2 t3 : TE} {m m2 m3 : EnvM → Bag → Res SV} {px py pz pt pos : Pos} {kt k2 pt2} (hc : X.calm = true) (hN : X.N.Nodup) (ha : MD X W a t m) (hb : MD X W b t2 m2) (hd : MD X W c t3 m3) (hi : X.N[i]? = some x := by rfl) (hj : X.N[j]? = some y := by rfl) (hk : X.N[k]? = some z := by rfl)
    (hx : Loc X.env.scope x := by first | exact Or.inl rfl | exact Or.inr rfl) (hy : Loc X.env.scope y := by first | exact Or.inl rfl | exact Or.inr rfl) (hz : Loc X.env.scope z := by first | exact Or.inl rfl | exact Or.inr rfl)
    (fx : X.fn x = true ∨ X.env.scope.names.lookup x = some .local := by first | exact .inl rfl | exact .inr rfl) (fy : X.fn y = true ∨ X.env.scope.names.lookup y = some .local := by first | exact .inl rfl | exact .inr rfl) (fz : X.fn z = true ∨ X.env.scope.names.lookup z = some .local := by first | exact .inl rfl | exact .inr rfl)
    (hs1 : starEach [a, b, c] X.env = (false, eval a X.env) :: starEach [b, c] X.env := by rfl) (hs2 : starEach [b, c] X.env = (false, eval b X.env) :: starEach [c] X.env := by rfl) (hs3 : starEach [c] X.env = (false, eval c X.env) :: starEach [] X.env := by rfl)
    (h1 : (assignEach [.Name x px, .Name y py, .Name z pz] X.env).map (·.2) = assign (.Name x px) X.env :: (assignEach [.Name y py, .Name z pz] X.env).map (·.2) := by rfl) (h2 : (assignEach [.Name y py, .Name z pz] X.env).map (·.2) = assign (.Name y py) X.env :: (assignEach [.Name z pz] X.env).map (·.2) := by rfl) (h3 : (assignEach [.Name z pz] X.env).map (·.2) = assign (.Name z pz) X.env :: (assignEach [] X.env).map (·.2) := by rfl)
    (hl : (assignEach [.Name x px, .Name y py, .Name z pz] X.env).length = 3 := by rfl) (hf : (assignEach [.Name x px, .Name y py, .Name z pz] X.env).findIdx? (·.1) = none := by rfl)
    (hw : swappedStores [.Tuple [.Name x px, .Name y py, .Name z pz] kt pt] (.Tuple [a, b, c] k2 pt2) X.env = pure none := by rfl)
    (hs : swapsWithSole [.Tuple [.Name x px, .Name y py, .Name z pz] kt pt] (.Tuple [a, b, c] k2 pt2) pos.line X.env = pure false := by rfl)
    (ho : (assignEach [.Tuple [.Name x px, .Name y py, .Name z pz] kt pt] X.env).map (·.2) = [assign (.Tuple [.Name x px, .Name y py, .Name z pz] kt pt) X.env] := by rfl) (hK : X.K = K := by rfl) :
    SD X W (.Assign [.Tuple [.Name x px, .Name y py, .Name z pz] kt pt] (.Tuple [a, b, c] k2 pt2) pos) (tAsg (ZT.tTupP (tCons t (tCons t2 (tCons t3 tNil)))) (gTup K 3 (gCons (gName i) (gCons (gName j) (gCons (gName k) gNil))))) (mParM3 i j k m m2 m3) := by
  subst hK
  refine ⟨ps_asg (ZT.pe_tupP (pa_cons ha.pe (pa_cons hb.pe (pa_cons hd.pe pa_nil hs3) hs2) hs1)) (pg_tup hc (pgs_cons (pg_name hN hi hx fx) (pgs_cons (pg_name hN hj hy fy) (pgs_cons (pg_name hN hk hz fz) pgs_nil h3) h2) h1) hl hf) hs hw ho, fun w G0 H0 σ env G H B D R h => ?_⟩
  refine ha.sem w G0 H0 σ env G H B _ R (PostS.bindM R (Sub.refl _) h fun sv B1 v G1 H1 s1 o1 d1 h1 => ?_)
  have R1 := R.step s1 o1
  refine hb.sem w G0 H0 σ env G1 H1 B1 _ R1 (PostS.bindM R1 s1.exG h1 fun sv2 B2 v2 G2 H2 s2 o2 d2 h2 => ?_)
  have R2 := R1.step s2 o2
  refine hd.sem w G0 H0 σ env G2 H2 B2 _ R2 (PostS.bindM R2 (Sub.trans s1.exG s2.exG) h2 fun sv3 B3 v3 G3 H3 s3 o3 d3 h3 => ?_)
  refine ⟨(by decide : 3 ≤ sizeLine), fun p ob hp hd => ⟨p, _, rfl, .inl ?_, rfl, v, _, rfl, v2, _, rfl, v3, _, rfl, rfl, ?_⟩⟩
  · exact .inr ⟨ob, upd_same⟩
  · exact h3 _ G3 _ ((((R.setSV s1 o1 i d1).setSV s2 o2 j d2).setSV s3 o3 k d3).step (Step.newH hp) (o3.newH hp)) (Sub.trans (Sub.trans s1.exG s2.exG) s3.exG)
theorem un65 {k : Nat} {A : Around} (r : Room k A) : A.units + 65 < cLine := by have := r.un; omega
/-- x, y, z = a, b, c with plain local names: stored from the right (along the kit's ps_par) -/
def tPar3 (i j k : Nat) (ta : TA) : TS := fun D σ H => ta σ H fun vs H1 => ∃ v w u, vs = [v, w, u] ∧ D.nx (((σ.set i (some v)).set j (some w)).set k (some u)) H1
theorem ps_par3 {i j k : Nat} {x y z : Str} {a b c : Expr} {ta : TA} {px py pz pt : Pos} {kt k2 pt2} {pos : Pos} (hc : X.calm = true) (hN : X.N.Nodup) (hi : X.N[i]? = some x) (hj : X.N[j]? = some y) (hk : X.N[k]? = some z) (hij : i ≠ j) (hik : i ≠ k) (hjk : j ≠ k)
    (hx : X.env.scope.names.lookup x = some .local) (hy : X.env.scope.names.lookup y = some .local) (hz : X.env.scope.names.lookup z = some .local) (ha : PA X [a, b, c] ta)
    (hw : swappedStores [.Tuple [.Name x px, .Name y py, .Name z pz] kt pt] (.Tuple [a, b, c] k2 pt2) X.env = pure (some [x, y, z]))
    (hs : swapsWithSole [.Tuple [.Name x px, .Name y py, .Name z pz] kt pt] (.Tuple [a, b, c] k2 pt2) pos.line X.env = pure false := by rfl) :
    PS X (.Assign [.Tuple [.Name x px, .Name y py, .Name z pz] kt pt] (.Tuple [a, b, c] k2 pt2) pos) (tPar3 i j k ta) := by
  refine ⟨fun pins s σ H D I h => ?_⟩
  rw [exec_Assign_arm]
  refine wpAny_bind (wpAny_standAt ?_)
  rw [hs]
  refine wpAny_bind (wpAny_pure ?_)
  rw [if_neg (by decide)]
  refine wpAny_bind (PyProof.Rows.Tuple_ (thn (ha.run _ pins s σ H _ I h) fun us s1 ⟨vs, H1, I1, r1, q1⟩ => ?_))
  obtain ⟨v, w, u, e1, q1⟩ := q1
  subst e1
  obtain ⟨u1, u2, u3, rfl, rv, rw', ru⟩ : ∃ u1 u2 u3, us = [u1, u2, u3] ∧ RelV v u1 ∧ RelV w u2 ∧ RelV u u3 := by
    cases r1 with
    | cons p q =>
      cases q with
      | cons p' q' =>
        cases q' with
        | cons p2 q2 =>
          cases q2
          exact ⟨_, _, _, rfl, p, p', p2⟩
  refine wpAny_newObj_type ?_ (by show 3 ≤ sizeLine; decide)
  have I2 : Inv X pins σ H1 { s1 with heap := s1.heap.push { cls := .type "tuple", data := .seq [u1, u2, u3].toArray } } := I1.kept (t' := s1.toks) fun b o e => Heap.get?_push_of_some _ e
  rw [hw]
  refine wpAny_bind (wpAny_pure ?_)
  show wpAny (model X.prog X.w) X.A (do rule "assign.swapped-stores"; let items ← unpackItems (.ref s1.heap.objs.size) 3 none; assignInOrder [fun v => bindName X.env z v, fun v => bindName X.env y v, fun v => bindName X.env x v] items.reverse; pure Flow.next) _ _ _
  refine wpAny_bind (wpAny_rule (wpAny_bind (unpackItems_tuple (items := #[u1, u2, u3]) (I.ok.hd hc) (IsTup.new s1.heap _) fun h' hx' => ?_)))
  have I3 := I2.kept (h' := h') (t' := s1.toks) fun b o e => hx' b o (Nat.ne_of_lt (Heap.lt_size e)) e
  show wpAny _ _ (assignInOrder [fun v => bindName X.env z v, fun v => bindName X.env y v, fun v => bindName X.env x v] [u3, u2, u1] >>= fun _ => pure Flow.next) _ _ _
  refine wpAny_bind (assignInOrder_cons (wpAny_bindName (store_ok I3 hN hk (.inl hz) ru (fun s2 I4 => ?_) (.inr hz))))
  refine assignInOrder_cons (wpAny_bindName (store_ok I4 hN hj (.inl hy) rw' (fun s3 I5 => ?_) (.inr hy)))
  refine assignInOrder_cons (wpAny_bindName (store_ok I5 hN hi (.inl hx) rv (fun s4 I6 => assignInOrder_nil (wpAny_pure ?_)) (.inr hx)))
  rw [List.set_comm _ _ (Ne.symm hjk), List.set_comm _ _ (Ne.symm hik), List.set_comm _ _ (Ne.symm hij)] at I6
  exact ⟨_, H1, I6, q1⟩
theorem sd_par3 (i j k : Nat) {x y z : Str} {a b c : Expr} {t t2 t3 : TE} {m m2 m3 : EnvM → Bag → Res SV} {px py pz pt pos : Pos} {kt k2 pt2} (hc : X.calm = true) (hN : X.N.Nodup) (ha : MD X W a t m) (hb : MD X W b t2 m2) (hd : MD X W c t3 m3) (hi : X.N[i]? = some x := by rfl) (hj : X.N[j]? = some y := by rfl) (hk : X.N[k]? = some z := by rfl) (hij : i ≠ j := by decide) (hik : i ≠ k := by decide) (hjk : j ≠ k := by decide)
    (hx : X.env.scope.names.lookup x = some .local := by rfl) (hy : X.env.scope.names.lookup y = some .local := by rfl) (hz : X.env.scope.names.lookup z = some .local := by rfl)
    (hs1 : starEach [a, b, c] X.env = (false, eval a X.env) :: starEach [b, c] X.env := by rfl) (hs2 : starEach [b, c] X.env = (false, eval b X.env) :: starEach [c] X.env := by rfl) (hs3 : starEach [c] X.env = (false, eval c X.env) :: starEach [] X.env := by rfl)
    (hw : swappedStores [.Tuple [.Name x px, .Name y py, .Name z pz] kt pt] (.Tuple [a, b, c] k2 pt2) X.env = pure (some [x, y, z]) := by rfl)
    (hs : swapsWithSole [.Tuple [.Name x px, .Name y py, .Name z pz] kt pt] (.Tuple [a, b, c] k2 pt2) pos.line X.env = pure false := by rfl) :
    SD X W (.Assign [.Tuple [.Name x px, .Name y py, .Name z pz] kt pt] (.Tuple [a, b, c] k2 pt2) pos) (tPar3 i j k (tCons t (tCons t2 (tCons t3 tNil)))) (mParM3 i j k m m2 m3) := by
  refine ⟨ps_par3 hc hN hi hj hk hij hik hjk hx hy hz (pa_cons ha.pe (pa_cons hb.pe (pa_cons hd.pe pa_nil hs3) hs2) hs1) hw hs, fun w G0 H0 σ env G H B D R h => ?_⟩
  refine ha.sem w G0 H0 σ env G H B _ R (PostS.bindM R (Sub.refl _) h fun sv B1 v G1 H1 s1 o1 d1 h1 => ?_)
  have R1 := R.step s1 o1
  refine hb.sem w G0 H0 σ env G1 H1 B1 _ R1 (PostS.bindM R1 s1.exG h1 fun sv2 B2 v2 G2 H2 s2 o2 d2 h2 => ?_)
  have R2 := R1.step s2 o2
  refine hd.sem w G0 H0 σ env G2 H2 B2 _ R2 (PostS.bindM R2 (Sub.trans s1.exG s2.exG) h2 fun sv3 B3 v3 G3 H3 s3 o3 d3 h3 => ?_)
  exact ⟨_, _, _, rfl, h3 _ G3 H3 (((R.setSV s1 o1 i d1).setSV s2 o2 j d2).setSV s3 o3 k d3) (Sub.trans (Sub.trans s1.exG s2.exG) s3.exG)⟩
def mhNil : List (Str × PD) → Option (List PD) := fun _ => some []
def mhStr (x : Str) (m : List (Str × PD) → Option (List PD)) : List (Str × PD) → Option (List PD) := fun as => (m as).map fun ds => .str x :: ds
def mhBy (f : Str) (m : List (Str × PD) → Option (List PD)) : List (Str × PD) → Option (List PD) := fun as => match as.lookup f with
  | some d => (m as).map fun ds => d :: ds
  | none => none
theorem hd_nilM {i : Nat} {C : Addr} : HD X i C [] (fun _ _ _ => tNil) mhNil := hd_nil
theorem hd_strM {i : Nat} {C : Addr} {x : Str} {j : Nat} {p : Pos} {es : List Expr} {t : Addr → Value → Option Addr → TA} {m : List (Str × PD) → Option (List PD)} (h : HD X i C es t m) (hs : ∀ (a : Addr) (pn : List (Addr × Obj)), starEach (.Constant (.str x) j p :: es) (X.suite a pn).env = (false, eval (.Constant (.str x) j p) (X.suite a pn).env) :: starEach es (X.suite a pn).env := by exact fun _ _ => rfl) :
    HD X i C (.Constant (.str x) j p :: es) (fun a cls d => tCons (tC (.str x)) (t a cls d)) (mhStr x m) := hd_str h hs
theorem hd_byM {i : Nat} {C : Addr} {f n : Str} {p p2 : Pos} {es : List Expr} {t : Addr → Value → Option Addr → TA} {m : List (Str × PD) → Option (List PD)} (hga : PySem.W.findIn X.K (.ref C) "__getattribute__" = some (some (.builtin "BaseException.__getattribute__"))) (hgg : PySem.W.findIn X.K (.ref C) "__getattr__" = some none)
    (hex : PySem.W.subIn X.K (.ref C) (.type "BaseException") = some true) (hdC : PySem.W.hasDictIn X.K C = true) (hno : PySem.W.findIn X.K (.ref C) f = some none) (h : HD X i C es t m) (hN : X.N[i]? = some n := by rfl) (hv : Vis X.env.scope n := by first | exact Or.inl rfl | exact Or.inr (Or.inl rfl) | exact Or.inr (Or.inr rfl))
    (hd : (n == ("__debug__" : Str)) = false := by decide) (hcd : (n == ("__classdict__" : Str)) = false := by decide) (hb : attributeBase (.Name n p) f X.env (eval (.Name n p) X.env) = eval (.Name n p) X.env := by rfl)
    (hs : starEach (.Attribute (.Name n p) f p2 :: es) X.env = (false, eval (.Attribute (.Name n p) f p2) X.env) :: starEach es X.env := by rfl) :
    HD X i C (.Attribute (.Name n p) f p2 :: es) (fun a cls d => tCons (tBy C f a cls d (tVarL X.N.length i)) (t a cls d)) (mhBy f m) := hd_by hga hgg hex hdC hno h hN hv hd hcd hb hs
end
end DL
set_option Elab.async false
set_option linter.all false
set_option maxRecDepth 100000
set_option maxHeartbeats 4000000
/-! DL28: len(set(e)), e a list of ints, repeated ones too. -/
namespace DL
open PySem L2
theorem firstMet_add (ns : List Int) : ∀ k, k ≤ ns.length → PyProof.Rows.firstMet (fun i => ns.getD i 0) k = (ns.take k).foldl addK []
  | 0, _ => by rw [List.take_zero]; rfl
  | k + 1, h => by
    have ih := firstMet_add ns k (by omega)
    have hk : k < ns.length := by omega
    rw [PyProof.Rows.firstMet_succ, ih, List.take_add_one, List.getElem?_eq_getElem hk, Option.toList_some, List.foldl_append]
    have e : ns.getD k 0 = ns[k] := by simp [List.getD, List.getElem?_eq_getElem hk]
    show PyProof.Rows.step_dedup _ (ns.getD k 0) = _
    rw [e]
    unfold PyProof.Rows.step_dedup
    show _ = addK ((ns.take k).foldl addK []) ns[k]
    unfold addK
    by_cases c : ns[k] ∈ (ns.take k).foldl (fun l k => if k ∈ l then l else l ++ [k]) []
    · rw [if_pos c, if_pos (by rw [List.any_eq_true]; exact ⟨_, c, by simp⟩)]
    · rw [if_neg c, if_neg (by rw [List.any_eq_true]; rintro ⟨x, hx, e2⟩; have : x = ns[k] := by simpa using e2
                               exact c (this ▸ hx))]
section
variable {X : Cx} {W : WX}
def tLenSetD (K : Fg) (ta : TE) : TE := fun σ H Q => ta σ H fun x H1 => ∃ (l : Addr) (ns : List Int), x = .ref l ∧ SqL K H1 l (ns.map V.int) ∧ ns.length ≤ 4000 ∧ Q (.int ((dedupK ns).length : Nat)) H1
theorem pe_lenSetD {a : Expr} {ta : TE} {p p2 q pos : Pos} (hg : Gl X "len") (hm : X.mg "len" = none) (hg2 : Gl X "set") (hm2 : X.mg "set" = none) (ha : PE X a ta) (hc : X.calm = true := by rfl)
    (na : starEach [a] X.env = (false, eval a X.env) :: starEach [] X.env := by rfl) : PE X (.Call (.Name "len" p) [.Call (.Name "set" p2) [a] [] q] [] pos) (tLenSetD X.K ta) := by
  refine ⟨fun pins s σ H Q I h => ?_⟩
  refine PyProof.Rows.Call_ (ld_blt I hg hm PySem.boot_len ?_)
  refine PyProof.Rows.callWith_builtin1 (PyProof.Rows.args_cons ?_ rfl) rfl rfl
  refine PyProof.Rows.Call_ (ld_blt I hg2 hm2 PyProof.Rows.boot_set ?_)
  refine PyProof.Rows.callWith_type1 (PyProof.Rows.args_cons (thn (ha.run pins s σ H _ I h) fun v s1 ⟨x, H1, I1, r1, q1⟩ => PyProof.Rows.args_nil ?_) na) na rfl
  obtain ⟨l, ns, rfl, hq, hl, q1⟩ := q1
  cases r1
  obtain ⟨its, r, pl, hz⟩ := I1.list hq
  have hlen : its.toArray.size = ns.length := by rw [List.size_toArray, ← r.length, List.length_map]
  refine call_set_list (I1.ok.hd hc) pl.isList (by simpa using RZ.intsAre_vals r) (by rw [hlen]; unfold scanBound; omega) fun h' tk hS hk => ?_
  refine PyProof.Rows.args_nil ?_
  rw [hlen, firstMet_add ns ns.length (Nat.le_refl _), List.take_length] at hS
  obtain ⟨o, es, ep, t, ho, hex, hd, _, _, _, hf, hn⟩ := hS
  have I2 : Inv X pins σ H1 { s1 with heap := h', toks := tk } := I1.kept fun b o e => hk b o (Heap.lt_size e) e
  have b := dedupK_len ns
  exact call_len_set ho hex hd hf (by rw [hn]; show ((dedupK ns).length : Int) < 2 ^ 63; omega) ⟨.int (dedupK ns).length, H1, I2.tok _, ⟨_, by rw [hn]; rfl⟩, q1⟩
def mLenSetI (m : EnvM → Bag → Res PD) : EnvM → Bag → Res PD := fun env B => (m env B).bind fun d B1 => match d with
  | .list ds => (match unI ds with
    | some ns => if ns.length ≤ 4000 then .ok (.int ((dedupK ns).length : Int)) B1 else .bad
    | none => .bad)
  | _ => .bad
theorem ed_lenSetI (K : Fg) {e : Expr} {t : TE} {m : EnvM → Bag → Res PD} {p p2 q pos : Pos} (hm : X.mg "len" = none) (hm2 : X.mg "set" = none) (he : ED X W e t m) (hg : Gl X "len" := by rfl) (hg2 : Gl X "set" := by rfl) (hc : X.calm = true := by rfl)
    (na : starEach [e] X.env = (false, eval e X.env) :: starEach [] X.env := by rfl) (hK : X.K = K := by rfl) : ED X W (.Call (.Name "len" p) [.Call (.Name "set" p2) [e] [] q] [] pos) (tLenSetD K t) (mLenSetI m) := by
  subst hK
  refine ⟨pe_lenSetD hg hm hg2 hm2 he.pe hc na, fun w G0 H0 σ env G H B Q R h => ?_⟩
  refine he.sem w G0 H0 σ env G H B _ R (PostR.bind h fun d B1 v G1 H1 s1 o1 d1 h1 => ?_)
  cases d with
  | list ds =>
    cases e1 : unI ds with
    | none => simp only [e1] at h1; exact h1.elim
    | some ns =>
      simp only [e1] at h1
      by_cases hl : ns.length ≤ 4000
      · rw [if_pos hl] at h1
        rw [unI_eq e1] at d1
        cases d1 with
        | lst hx q =>
          have e2 := q.of_ints
          subst e2
          exact ⟨_, ns, rfl, subL o1.sub hx, hl, h1 _ G1 H1 Step.refl o1 (.int _)⟩
      · rw [if_neg hl] at h1; exact h1.elim
  | _ => exact (show False from h1).elim
end
end DL
set_option Elab.async false
set_option linter.all false
set_option maxRecDepth 100000
set_option maxHeartbeats 2000000
/-! DLA: the layer whole. -/
set_option Elab.async false
set_option linter.all false
set_option maxRecDepth 100000
set_option maxHeartbeats 4000000
namespace PySem
namespace OwnRefused
open PySem.W PySem.Calls PyProof.Rows PySem.PX
abbrev sI : Stmt := L2.inClass (PySem.Challenge.pw_stillsums_k12_short_rows_and_what_is_lef.main.body.getD 3 (.Pass ⟨0, 0, 0, 0⟩)) 0
structure Txt (P : Program) (K : Frag) (mg : Str → Option Value) (C fI cc cda : Addr) : Prop where
  gC : mg "Refused" = some (.ref C)
  cls : ∃ nm q N bs bm sn sub ab col dd k0 k1 k2 k3 k5, K.lookup C = some (excClassObj nm q C N bs bm true sn sub ab col dd k0 k1 k2 k3 k5 "ValueError.__new__") ∧ refsVE bm = true
  sa : findIn K (.ref C) "__setattr__" = some (some (.builtin "object.__setattr__"))
  ga : findIn K (.ref C) "__getattribute__" = some (some (.builtin "BaseException.__getattribute__"))
  gg : findIn K (.ref C) "__getattr__" = some none
  at_why : findIn K (.ref C) "why" = some none
  iC : findIn K (.ref C) "__init__" = some (some (.ref fI))
  tC : typeIn K (.ref fI) = some (.type "function")
  kC : keepIn K (.ref C) = true
  exC : subIn K (.ref C) (.type "BaseException") = some true
  tyC : typeIn K (.ref C) = some (.type "type")
  hdC : hasDictIn K C = true
  te : exmOne K (.ref C) (.ref C) = some true
  sup : ks_superIn K C C "__init__" = some (some (.builtin "ValueError.__init__"))
  subV : subIn K (.ref C) (.type "ValueError") = some true
  subC : mroIn K C (.ref C) = some true
  opq : nsIn K cStatics "thirdparty.any" = some none
  gS : mg "super" = none
  cell : ∃ cl cld csl, K.lookup cc = some ⟨cl, cld, .cell (some (.ref C)), csl⟩
  code : ∃ (ccl : Value) (cdd : Option Addr) (vs : Array Value) (ccs : Array (Option Value)) (file : Str) (tf : Tok), K.lookup cda = some ⟨ccl, cdd, .fields vs, ccs⟩ ∧ vs[2]? = some (.str file tf) ∧ ((P.main.file : Str) == file) = true
  top : (P.main.scope.names.lookup ("super" : Str)).isSome = false
  fn : ∃ (oc : Value) (od : Option Addr) (doc pm : Value) (an : Option Addr) (ct : Value) (osl : Array (Option Value)),
    K.lookup fI = some ⟨oc, od, .func (ksFn "__init__" "Refused.__init__" (L2.defArgs sI) (L2.defBody sI) (L2.defScope sI) .none .none doc pm an (.ref cda) ct cc), osl⟩ ∧ codeIn K (.ref cda) "Refused.__init__" = true
/-- what __init__ leaves of a fresh exception at x -/
structure InitEnd (h h' : Heap) (x C dx t1 : Addr) (v0 : Value) : Prop where
  keep : ∀ b o, b ≠ x → h.get? b = some o → h'.get? b = some o
  obj : h'.get? x = some { cls := .ref C, dict := some dx, data := .fields #[.ref t1, .none, .none, .none, .bool false, .none] }
  dbig : h.objs.size ≤ dx
  dne : dx ≠ x
  ns : h'.Ns1 dx (fun y => if y = "why" then some v0 else none)
/-- a made one -/
structure OwnMade (h h' : Heap) (e C d : Addr) (v0 : Value) : Prop where
  keep : ∀ b o, h.get? b = some o → h'.get? b = some o
  new : h.objs.size ≤ e
  obj : ∃ oe vs, h'.get? e = some oe ∧ oe.cls = .ref C ∧ oe.dict = some d ∧ oe.data = .fields vs ∧ vs[1]? = some .none
  dbig : h.objs.size ≤ d
  dne : d ≠ e
  ns : h'.Ns1 d (fun y => if y = "why" then some v0 else none)
theorem ldE {M : Model} {s : Shared} {env : Env} {m : Str → Option Value} {x : Str} {pos : Pos} {v : Value} {Q : Value → Shared → Prop} {A : Around} {E : Value → Shared → Prop} (hn : s.heap.Ns env.locals m) (hv : m x = some v) (h : Q v s)
    (hk : env.scope.kind = .function := by rfl) (hl : env.kindOf x = some .local := by rfl) (hd : (x == ("__debug__" : Str)) = false := by decide) :
    wpAny M A (eval (.Name x pos) env) Q E s := wpAny_Name (wpAny_loadName_local hk hl hn hv h) hd
section
variable {prog : Program} {w : World} {A : Around} {E : Value → Shared → Prop} {R : Result → Shared → Prop} {s : Shared} {K : Frag} {mg : Str → Option Value} {C fI cc cda : Addr}
/-- ValueError.__init__ bound to e, called -/
theorem call_mw {nm q : Str} {N : Addr} {bs bm : List Value} {hdct : Bool} {sn : List Str} {sub : List Value} {ab : Bool} {col : Option Bool} {dd : Option Addr} {k0 k1 k2 k3 k5 : Option Value} {u e t0 : Addr} {rest : List Value} {Q : Value → Shared → Prop} {h : Heap} {g : Array GenState} {d : Drawn} {t : Nat} {os : OsState}
    (hC : h.get? C = some (excClassObj nm q C N bs bm hdct sn sub ab col dd k0 k1 k2 k3 k5 "ValueError.__new__")) (he : h.get? e = some (excO C t0)) (hu : h.get? u = some (kxs_mw "ValueError.__init__" e)) (hrest : rest.length ≤ sizeLine)
    (hq : ∀ h' t1, (∀ b o, b ≠ e → h.get? b = some o → h'.get? b = some o) → h'.get? e = some (excO C t1) → Q .none ⟨h', g, d, t, os⟩) :
    wpAny (model prog w) A (call (.ref u) rest) Q E ⟨h, g, d, t, os⟩ := by
  refine wpAny_call (codeAny_of_tree ?_)
  show wpAny _ A.in1 (callAny (.ref u) ⟨rest, []⟩) _ _ _
  simp only [callAny]
  refine wpAny_bind (wpAny_load hu ?_)
  simp only [kxs_mw, show (Value.type "method-wrapper" == Value.type "method" || Value.type "method-wrapper" == Value.type "builtin_function_or_method" || Value.type "method-wrapper" == Value.type "method-wrapper") = true by decide, if_true]
  refine KFB.if_so (by decide) ?_
  refine wpAny_bind (check_bound_init F.excBase_ValueError.toExcCallFacts hC he rfl ?_)
  refine wpAny_bind (wpAny_pure (wpAny_pure ?_))
  refine ⟨plainId_quiet F.excBase_ValueError.init.plain _, codeAny_builtin F.excBase_ValueError.initEntry ?_⟩
  exact exc_init_tree (cls := .ref C) (t0 := t0) (dv := none) (c2 := .none) (c3 := .none) (b4 := .bool false) he hrest fun h' k e' t' => hq h' _ k e'

theorem callWith_mw {M : Model} {i : String} {pos : Pos} {u x : Addr} {env : Env} {e : Expr} {rest : List Expr} {Q : Value → Shared → Prop}
    (h : wpAny M A (spliced (backTo pos (starEach (e :: rest) env))) (fun vs s₁ => s₁.heap.get? u = some (kxs_mw i x) ∧ wpAny M A (call (.ref u) vs) Q E s₁) E s)
    (he : starEach (e :: rest) env = (false, eval e env) :: starEach rest env := by rfl) (hplain : (backTo pos (starEach rest env)).any (·.1) = false := by rfl) :
    wpAny M A (callWith pos (.ref u) [] (backTo pos (starEach (e :: rest) env)) []) Q E s := by
  rw [he] at h ⊢
  refine kxs_callWith (i := i) (x := x) (by show (false || (backTo pos (starEach rest env)).any (·.1)) = false; rw [hplain]; rfl) ?_
  exact evalArgs_plain h
theorem kept_but {K : Frag} {h h' : Heap} {x : Addr} (X : K.In h) (hx : K.lookup x = none) (k : ∀ b o, b ≠ x → h.get? b = some o → h'.get? b = some o) : K.In h' := fun a o e =>
  k a o (fun z => by rw [z, hx] at e; cases e) (X a o e)
theorem init (T : Txt prog K mg C fI cc cda) {x t0 : Addr} {v0 : Value} (X : K.In s.heap) (hlim : s.heap.NoLimit) (hg : s.heap.Ns mainGlobals mg) (hb : ∃ mb, s.heap.Ns builtinsNs mb ∧ ∀ x : Str, x ≠ "__name__" → mb x = bootBuiltins x)
    (hx : s.heap.get? x = some (excO C t0)) (hnx : K.lookup x = none) (hroom : A.depth < recursionLimit)
    (hq : ∀ h' tk dx t1, InitEnd s.heap h' x C dx t1 v0 → R (.ok (.ret .none)) { s with heap := h', toks := tk }) :
    codeAny (model prog w) A (.call (.ref fI) ⟨[.ref x, v0], []⟩) R s := by
  obtain ⟨oc, od, doc, pm, an, ct, osl, ho, hcd⟩ := T.fn
  obtain ⟨nm, q, N, bs, bm, sn, sub, ab, col, dd, k0, k1, k2, k3, k5, hC, hbm⟩ := T.cls
  obtain ⟨ccl, cdd, vs, ccs, file, tf, hcode, hvs, hfile⟩ := T.code
  obtain ⟨cl, cld, csl, hcell⟩ := T.cell
  obtain ⟨mb, hbN, hbB⟩ := hb
  have hcl : clsIn K C = some { name := nm, bases := bs, mro := .ref C :: bm, ns := N, qualname := q, hasDict := true, slotNames := sn, subclasses := sub, abstract := ab, collection := col, hasDel := false } := by unfold clsIn; rw [hC] <;> rfl
  obtain ⟨hp, g, d, tk, os⟩ := s
  refine ks_codeAny_call_defAt (binds := [("self", .ref x), ("why", v0)]) hroom (X _ _ ho) rfl hlim (codeRec_of X hcd) rfl (BindsTo.of_eq (by first | rfl | with_unfolding_all rfl)) (show ∀ x ∈ (L2.defScope sI).names, x.2 ≠ .cell by decide) (by intro y hy; simp at hy; rcases hy with h | h <;> subst h <;> rfl) (fun h₁ hn k => ?_)
  have hxL : hp.objs.size ≠ x := Nat.ne_of_gt (Heap.lt_size hx)
  have X₁ : K.In h₁ := X.keeps k
  have hx₁ := k _ _ hx
  have hxC : x ≠ C := fun z => by rw [z, hC] at hnx; cases hnx
  show wpAt _ _ (.func _ (ksEnv "Refused.__init__" (L2.defScope sI) hp.objs.size fI (.ref cda) cc)) (execs _ (ksEnv "Refused.__init__" (L2.defScope sI) hp.objs.size fI (.ref cda) cc)) _ _ _
  refine ks_wpAt_execs_cons (ks_wpAt_Expr_any (ks_wpAt_MethodCall ?_))
  have hC₁ : h₁.get? C = some _ := X₁ _ _ hC
  refine ks_wpAt_super_base (env := ksEnv "Refused.__init__" (L2.defScope sI) hp.objs.size fI (.ref cda) cc) rfl rfl (by decide) rfl (X₁ _ _ ho) rfl rfl rfl (X₁ _ _ hcode) rfl hvs hfile T.top ?_
  refine ks_loadName_global rfl rfl (loadGlobal_builtin (env := ksEnv "Refused.__init__" (L2.defScope sI) hp.objs.size fI (.ref cda) cc) (hg.at fun o e => k _ o e) T.gS (hbN.at fun o e => k _ o e) ((hbB _ (by decide +kernel)).trans (show bootBuiltins "super" = some (.type "super") by decide +kernel)) ⟨rfl, ?_⟩)
  refine wpAny_loadName_free rfl rfl rfl ⟨_, X₁ _ _ hcell, rfl⟩ ?_
  refine wpAny_loadName_local rfl rfl hn rfl ?_
  refine ks_wpAny_isType_cls hC₁ rfl ⟨rfl, ?_⟩
  refine ks_wpAny_call_super hC₁ rfl hx₁ rfl (fun c e => by cases e) (looks_mroIn X₁ T.subC) (fun h₂ e₂ k₂ => ?_)
  have X₂ : K.In h₂ := X₁.keeps k₂
  have hx₂ := k₂ _ _ hx₁
  have I₂ : InstAt h₂ x (excO C t0) C none := ⟨hx₂, rfl, rfl, trivial⟩
  have hI : Looks (model prog w) h₂ (isInstance (.ref x) (.type "ValueError")) true := I₂.type.andThen (looks_subIn X₂ T.subV)
  have hsup : alongIn K "__init__" ((((.ref C :: bm : List Value)).dropWhile (· != .ref C)).drop 1) = some (some (.builtin "ValueError.__init__")) := by
    have q := T.sup
    unfold ks_superIn at q
    rw [hcl] at q
    exact q
  refine kxs_getMethod kxs_ValueError e₂ (looks_opaque X₂ T.opq) (l₀ := .ref C :: bm) (fun A Q E s k q => wpAny_bind ((looks_clsIn X₂ hcl) A _ E s k (wpAny_pure q))) rfl X₂ hsup hI hxC (by decide) ?_
  have k₃ : ∀ b o, h₂.get? b = some o → (h₂.push (kxs_mw "ValueError.__init__" x)).get? b = some o := fun b o e => Heap.get?_push_of_some _ e
  generalize hh₃ : h₂.push (kxs_mw "ValueError.__init__" x) = h₃ at k₃ ⊢
  have hu₃ : h₃.get? h₂.objs.size = some (kxs_mw "ValueError.__init__" x) := by rw [← hh₃]; exact Heap.get?_push_at rfl rfl
  have k13 : ∀ b o, h₁.get? b = some o → h₃.get? b = some o := fun b o e => k₃ b o (k₂ b o e)
  have hn₃ := hn.at fun o e => k13 _ o e
  have hx₃ := k13 _ _ hx₁
  have X₃ : K.In h₃ := X₁.keeps k13
  have hC₃ := X₃ _ _ hC
  refine callWith_mw (i := "ValueError.__init__") (x := x) (args_cons (ldE (v := v0) hn₃ (by first | rfl | with_unfolding_all rfl | kernel_rfl) (args_nil ⟨hu₃, ?_⟩)))
  refine call_mw hC₃ hx₃ hu₃ (show 1 ≤ sizeLine by decide) (fun h₄ t1 k₄ hx₄ => ?_)
  have X₄ : K.In h₄ := kept_but X₃ hnx k₄
  have hn₄ := hn₃.at fun o e => k₄ _ o hxL e
  refine ks_wpAt_execs_cons (wpAt_of_wpAny (plainObj_wpAny_Assign_Attribute ?_))
  refine ldE (v := v0) hn₄ (by first | rfl | with_unfolding_all rfl | kernel_rfl) (ldE (v := .ref x) hn₄ (by first | rfl | with_unfolding_all rfl | kernel_rfl) ?_)
  refine set_plain X₄ (ox := excO C t1) (od := none) ⟨hx₄, rfl, rfl, trivial⟩ T.sa ?_
  refine exc_osa X₄ hx₄ hcl (show refsVE (.ref C :: bm) = true from hbm) rfl T.at_why (fun h₅ tk₅ dx k₅ dn dne hx₅ hns₅ => ?_)
  have X₅ : K.In h₅ := kept_but X₄ hnx k₅
  have hn₅ := hn₄.at fun o e => k₅ _ o hxL e
  have lt₄ : hp.objs.size < h₄.objs.size := hn₄.lt
  have up₅ : ∀ b o, b ≠ x → hp.get? b = some o → h₅.get? b = some o := fun b o hb e => k₅ b o hb (k₄ b o hb (k13 b o (k b o e)))
  refine wpAt_of_wpAny (wpAny_execs_nil (hq h₅ tk₅ dx t1 ⟨up₅, hx₅, Nat.le_trans (Nat.le_of_lt lt₄) dn, dne, hns₅⟩))
theorem made (T : Txt prog K mg C fI cc cda) {v0 : Value} (X : K.In s.heap) (hlim : s.heap.NoLimit) (hg : s.heap.Ns mainGlobals mg) (hb : ∃ mb, s.heap.Ns builtinsNs mb ∧ ∀ x : Str, x ≠ "__name__" → mb x = bootBuiltins x) (hroom : A.depth + 1 < recursionLimit)
    (hq : ∀ h' tk e d, OwnMade s.heap h' e C d v0 → R (.ok (.ret (.ref e))) { s with heap := h', toks := tk }) :
    codeAny (model prog w) A (.call (.ref C) ⟨[v0], []⟩) R s := by
  obtain ⟨nm, q, N, bs, bm, sn, sub, ab, col, dd, k0, k1, k2, k3, k5, hC, hbm⟩ := T.cls
  obtain ⟨mb, hbN, hbB⟩ := hb
  obtain ⟨hp, g, dr, tk, os⟩ := s
  have k : ∀ b o, hp.get? b = some o → ((hp.push (kdv_tup [v0])).push (excO C hp.objs.size)).get? b = some o := fun b o e => Heap.get?_push_of_some _ (Heap.get?_push_of_some _ e)
  have hget : ((hp.push (kdv_tup [v0])).push (excO C hp.objs.size)).get? (hp.objs.size + 1) = some (excO C hp.objs.size) := by heap_get
  have hnx : K.lookup (hp.objs.size + 1) = none := by
    cases e : K.lookup (hp.objs.size + 1) with
    | none => rfl
    | some o =>
      have z : hp.get? (hp.objs.size + 1) = some o := X _ _ e
      exact absurd (Nat.lt_of_succ_lt (Heap.lt_size z)) (Nat.lt_irrefl _)
  refine call_own F.excBase_ValueError (fun X => refsVE_contains X bm hbm) (X _ _ hC) (looks_findIn X T.iC) (fun self => bind_fn X self T.tC) (show 1 ≤ sizeLine by decide) ?_
  refine init (s := ⟨(hp.push (kdv_tup [v0])).push (excO C hp.objs.size), g, dr, tk, os⟩) T (X.keeps k) (hlim.keeps k) (hg.at fun o e => k _ o e) ⟨mb, hbN.at fun o e => k _ o e, hbB⟩ hget hnx ?_ fun h' tk' dx t1 ⟨k', hx, dn, dne, hns⟩ => ?_
  · show A.depth + 1 < recursionLimit
    exact hroom
  · have old : ∀ b o, hp.get? b = some o → h'.get? b = some o := fun b o e => k' b o (Nat.ne_of_lt (Nat.lt_succ_of_lt (Heap.lt_size e))) (k b o e)
    have z : hp.objs.size + 1 + 1 ≤ dx := by
      first
        | (simpa only [Heap.size_push] using dn)
        | exact dn
        | (have q := dn; rw [Heap.size_push, Heap.size_push] at q; exact q)
    exact ⟨rfl, hq h' tk' (hp.objs.size + 1) dx ⟨old, Nat.le_succ _, ⟨_, _, hx, rfl, rfl, rfl, rfl⟩, Nat.le_trans (Nat.le_trans (Nat.le_succ _) (Nat.le_succ _)) z, dne, hns⟩⟩
end
end OwnRefused
end PySem
namespace DL
open PySem PySem.Spec PyProof.Rows L2
abbrev fs_Refused (a0 : V) : List (Str × V) := [(("why" : Str), a0)]
theorem relO_Refused {a0 : V} {u0 : Value} (r0 : RelV a0 u0) (y : Str) : RelO (List.lookup y (fs_Refused a0)) (if y = "why" then some u0 else none) := by
  by_cases h0 : y = "why"
  · subst h0
    rw [if_pos rfl]
    first
      | exact r0
      | (have q : List.lookup ("why" : Str) (fs_Refused a0) = some a0 := by simp [List.lookup]
         rw [q]
         exact r0)
  rw [if_neg h0]
  have q2 : List.lookup y (fs_Refused a0) = none := by
    have z0 : (y == ("why" : Str)) = false := by simpa using h0
    simp [List.lookup, z0]
  rw [q2]
  trivial
section
variable {X : Cx} {C fI cc cda : Addr}
/-- Refused(..) -/
def fsV_Refused : List V → Option (List (Str × V))
  | [a0] => some (fs_Refused a0)
  | _ => none
def fsP_Refused : List PD → Option (List (Str × PD))
  | [d0] => some [(("why" : Str), d0)]
  | _ => none
theorem fsok_Refused {K : Fg} (G : Hp) (vs : List V) (ds : List PD) (as : List (Str × PD)) (r : DRs K G vs ds) (h : fsP_Refused ds = some as) : ∃ fs, fsV_Refused vs = some fs ∧ Fs K G fs as := by
  unfold fsP_Refused at h
  split at h
  · cases h
    match vs, r with
    | _, .cons h0 (.nil) => exact ⟨_, rfl, .cons h0 (.nil)⟩
  · cases h
theorem pmk_Refused {a : Expr} {as : List Expr} {ta : TA} {p pos : Pos} {k : Nat} (T : PySem.OwnRefused.Txt X.prog X.K X.mg C fI cc cda) (hr : Room k X.A) (ha : PA X (a :: as) ta) (hg : Gl X "Refused" := by rfl)
    (he : starEach (a :: as) X.env = (false, eval a X.env) :: starEach as X.env := by rfl) (hpl : (backTo pos (starEach as X.env)).any (·.1) = false := by rfl) :
    PMk X (.Call (.Name "Refused" p) (a :: as) [] pos) (tMkX C fsV_Refused ta) := by
  intro pins s σ H Q I h
  refine wpAny_Call_Name_kw (ld_glob I hg T.gC ?_)
  refine PySem.W.callWith_K (h₀ := X.base) I.ok.mod.kin T.kC (thn (ha.run pos pins s σ H _ I h) fun us s1 hh => ?_) he hpl
  obtain ⟨vs, H1, I1, r1, fs, ef, q1⟩ := hh
  obtain ⟨a0, rfl, rfl⟩ : ∃ a0 : V, vs = [a0] ∧ fs = fs_Refused a0 := by
    unfold fsV_Refused at ef
    split at ef
    · cases ef; exact ⟨_, rfl, rfl⟩
    · cases ef
  refine ⟨I1.kIn, ?_⟩
  obtain ⟨u0, rfl, rv0⟩ : ∃ u0, us = [u0] ∧ RelV a0 u0 := by
    obtain ⟨u0, e, q0⟩ := r1.one; exact ⟨u0, e, q0⟩
  show wpAny _ _ (call (.ref C) [u0]) _ _ _
  have hlim := I1.nolimit
  have hgl : s1.heap.Ns mainGlobals X.mg := I1.ok.mod.glob.at fun o e => (I1.bs _ o e).1
  obtain ⟨mb, hb1, hb2⟩ := I1.ok.mod.blt
  have hbl : s1.heap.Ns builtinsNs mb := hb1.at fun o e => (I1.bs _ o e).1
  obtain ⟨hp, g, dr, tk, os⟩ := s1
  refine wpAny_call (PySem.OwnRefused.made T I1.kIn hlim hgl ⟨mb, hbl, hb2⟩ (by have := hr.dp; omega) fun h' tk' e d M => ?_)
  show MkP X pins σ Q (.ref e) ⟨h', g, dr, tk', os⟩
  obtain ⟨oe, fv, hoe, hc, hd, hdat, h1⟩ := M.obj
  have hns := M.ns
  obtain ⟨G', g1, g2⟩ := restrict h' fun b => decide (b ≠ e)
  have gk : ∀ b, b ≠ e → G'.get? b = h'.get? b := fun b hb => g1 b (decide_eq_true hb)
  have ge : G'.get? e = none := g2 e (by simp)
  have old : ∀ b o, hp.get? b = some o → G'.get? b = some o := fun b o q => (gk b (Nat.ne_of_lt (Nat.lt_of_lt_of_le (Heap.lt_size q) M.new))).trans (M.keep b o q)
  have ob : ObjOk X.prog X.w (upd H1 d (.xd (fs_Refused a0))) G' d (.xd (fs_Refused a0)) :=
    ⟨_, hns.at (fun o q => (gk d M.dne).trans q), fun f => relO_Refused rv0 f⟩
  have J : Inv X pins σ (upd H1 d (.xd (fs_Refused a0))) ⟨G', g, dr, tk', os⟩ := I1.laid (t' := tk') old M.dbig ob
  refine ⟨e, oe, fv, ⟨G', g, dr, tk', os⟩, _, .ref C, some d, rfl, J, fun b o q => ?_, ge, hoe, ⟨hc, hd⟩, hdat, h1, ?_, rfl, I1.bare, raises_own T.exC T.tyC, q1 d (I1.hok.fresh M.dbig)⟩
  · by_cases hb : b = e
    · have q' : G'.get? b = some o := q
      rw [hb, ge] at q'; cases q'
    · exact (gk b hb).symm.trans q
  · rw [upd_ne (Ne.symm M.dne)]
    exact I1.hok.fresh M.new
theorem ps_raise_Refused {a : Expr} {as : List Expr} {ta : TA} {W : WX} {p pos pos2 : Pos} {k : Nat} (hc : X.calm = true) (T : PySem.OwnRefused.Txt X.prog X.K X.mg C fI cc cda) (hr : Room k X.A) (tk : Takes X W) (ha : PA X (a :: as) ta) (hg : Gl X "Refused" := by rfl)
    (he : starEach (a :: as) X.env = (false, eval a X.env) :: starEach as X.env := by rfl) (hpl : (backTo pos (starEach as X.env)).any (·.1) = false := by rfl) :
    PS X (.Raise (some (.Call (.Name "Refused" p) (a :: as) [] pos)) none pos2) (fun _ σ H => tMkX C fsV_Refused ta σ H fun cls d H' => W cls d σ H') := ps_raise hc tk (pmk_Refused T hr ha hg he hpl)
end
end DL
set_option Elab.async false
set_option linter.all false
set_option maxRecDepth 100000
set_option maxHeartbeats 4000000
namespace DL
open PySem L2
/-! ### the mirrors -/
def d_MOST_LONG : PD := .int 400
def g__law_caught : Deed → Bag → Res PD := mTold "told" "Refused" (mhStr "refused" (mhBy "why" mhNil))
noncomputable def b__wall : EnvM → Bag → SRes := (mWhile (mTru truP (mC (.bool true))) mSkip)
noncomputable def f__wall : List SV → Bag → Res PD := mFn 1 b__wall
def b_names_of : EnvM → Bag → SRes := (mRet (mCa tupleP (mCons (mG (mLc [1, 2] (mSeqOfS (mVar 0)) (mgTup (mgCons (mgName 1) (mgCons (mgName 2) mgNil)) 2) mYes (mVar 1))) mNil)))
def f_names_of : List SV → Bag → Res PD := mFn 3 b_names_of
def b_index_of : EnvM → Bag → SRes := (mRet (mIndex (mCall 1 f_names_of (mCons (mG (mVar 0)) mNil)) (mVar 1)))
def f_index_of : List SV → Bag → Res PD := mFn 2 b_index_of
def b_moves_at : EnvM → Bag → SRes := (mRet (mCa tupleP (mCons (mG (mLc [2, 3] (mSeqOfS (mOp ixP (mOp ixP (mVar 0) (mVar 1)) (mC (.int 1)))) (mgTup (mgCons (mgName 2) (mgCons (mgName 3) mgNil)) 2) mYes (mTup (mCons (mG (mVar 2)) (mCons (mG (mCall 2 f_index_of (mCons (mG (mVar 0)) (mCons (mG (mVar 3)) mNil)))) mNil))))) mNil)))
def f_moves_at : List SV → Bag → Res PD := mFn 4 b_moves_at
def b_led : EnvM → Bag → SRes := (mRet (mGet1 (mFrV (mDictOf (mCall 2 f_moves_at (mCons (mG (mVar 0)) (mCons (mG (mVar 1)) mNil))))) (mVar 2)))
def f_led : List SV → Bag → Res PD := mFn 3 b_led
def b_letters_of : EnvM → Bag → SRes := (mRet (mCa tupleP (mCons (mG (mCa sortedDP (mCons (mG (mFrV (mDcx2 [1, 2, 3, 4] [3, 4] (mSeqOfS (mVar 0)) (mgTup (mgCons (mgName 1) (mgCons (mgName 2) mgNil)) 2) mYes (mSeqOfS (mVar 2)) (mgTup (mgCons (mgName 3) (mgCons (mgName 4) mgNil)) 2) mYes (mVar 3) (mC (.bool true))))) mNil))) mNil)))
def f_letters_of : List SV → Bag → Res PD := mFn 5 b_letters_of
def b_end_by : EnvM → Bag → SRes := (mSeq (mFor (mSeqOfS (mVar 2)) (mgName 3) (mSet (mgName 1) (mIfE (mCmp notNoneP (mVar 1) (mC .none)) (mCall 3 f_led (mCons (mG (mVar 0)) (mCons (mG (mVar 1)) (mCons (mG (mVar 3)) mNil)))) (mC .none))))
  (mRet (mVar 1)))
def f_end_by : List SV → Bag → Res PD := mFn 4 b_end_by
def b_is_word : EnvM → Bag → SRes := (mSeq (mIf (mOr (mNot (mTru truP (mIsi isTupB (mVar 1)))) (mCmp gtP (mCa lenP (mCons (mG (mVar 1)) mNil)) (mC d_MOST_LONG))) (mRet (mC (.bool false))) mSkip)
  (mRet (mCa allP (mCons (mG (mLc [2] (mSeqOfS (mVar 1)) (mgName 2) mYes (mAndV (mIsi isStrB (mVar 2)) (mB (mCmp inAP (mVar 2) (mCall 1 f_letters_of (mCons (mG (mVar 0)) mNil))))))) mNil))))
def f_is_word : List SV → Bag → Res PD := mFn 3 b_is_word
def b_is_row : EnvM → Bag → SRes := (mRet (mAndV (mCall 2 f_is_word (mCons (mG (mVar 0)) (mCons (mG (mVar 1)) mNil))) (mB (mCmp notNoneP (mCall 3 f_end_by (mCons (mG (mVar 0)) (mCons (mG (mC (.int 0))) (mCons (mG (mVar 1)) mNil)))) (mC .none)))))
def f_is_row : List SV → Bag → Res PD := mFn 2 b_is_row
def b_check_row : EnvM → Bag → SRes := (mIf (mNot (mTru truP (mCall 2 f_is_row (mCons (mG (mVar 0)) (mCons (mG (mVar 1)) mNil))))) (mRaise "Refused" fsP_Refused (mCons (mG (mC (.str "row"))) mNil)) mSkip)
def f_check_row : List SV → Bag → Res PD := mFn 2 b_check_row
def b_standings_along : EnvM → Bag → SRes := (mSeq (mDrop (mCallE 2 f_check_row (mCons (mG (mVar 0)) (mCons (mG (mVar 1)) mNil))))
  (mSeq (mOwn 2 (mCons (mG (mC (.int 0))) mNil))
  (mSeq (mFor (mSeqOfS (mVar 1)) (mgName 3) (mApp 2 (mCall 3 f_led (mCons (mG (mVar 0)) (mCons (mG (mIxOwn 2 (mNeg (mC (.int 1))))) (mCons (mG (mVar 3)) mNil))))))
  (mFz 2 (mRet (mCa tupleP (mCons (mG (mVar 2)) mNil)))))))
def f_standings_along : List SV → Bag → Res PD := mFn 4 b_standings_along
def b_is_short : EnvM → Bag → SRes := (mSeq (mIf (mNot (mTru truP (mCall 2 f_is_row (mCons (mG (mVar 0)) (mCons (mG (mVar 1)) mNil))))) (mRet (mC (.bool false))) mSkip)
  (mSeq (mSet (mgName 2) (mCallE 2 f_standings_along (mCons (mG (mVar 0)) (mCons (mG (mVar 1)) mNil))))
  (mRet (mB (mCmp eqP (mDcLen 3 (mSeqOfS (mVar 2))) (mCa lenP (mCons (mG (mVar 2)) mNil)))))))
def f_is_short : List SV → Bag → Res PD := mFn 4 b_is_short
noncomputable def b_short_rows : EnvM → Bag → SRes := (mSeq (mParM 1 2 (mML (mCons (mG (mTup mNil)) mNil)) (mML (mCons (mG (mTup (mCons (mG (mTup mNil)) (mCons (mG (mTup (mCons (mG (mC (.int 0))) mNil))) mNil)))) mNil)))
  (mSeq (mWhile (mLendT 2 (mCmp neP (mVar 2) (mLst mNil))) (mSeq (mPopSet 2 (mgTup (mgCons (mgName 3) (mgCons (mgName 4) mgNil)) 2) (mC (.int 0)))
  (mFor (mSeqOfS (mCall 2 f_moves_at (mCons (mG (mVar 0)) (mCons (mG (mOp ixP (mVar 4) (mNeg (mC (.int 1))))) mNil)))) (mgTup (mgCons (mgName 5) (mgCons (mgName 6) mgNil)) 2) (mIf (mCmp ninAP (mVar 6) (mVar 4)) (mSeq (mApp 1 (mTup (mStar (mVar 3) (mCons (mG (mVar 5)) mNil))))
  (mApp 2 (mTup (mCons (mG (mTup (mStar (mVar 3) (mCons (mG (mVar 5)) mNil)))) (mCons (mG (mTup (mStar (mVar 4) (mCons (mG (mVar 6)) mNil)))) mNil))))) mSkip))))
  (mFz 1 (mRet (mCa tupleP (mCons (mG (mVar 1)) mNil))))))
noncomputable def f_short_rows : List SV → Bag → Res PD := mFn 7 b_short_rows
def b_walked_out : EnvM → Bag → SRes := (mSeq (mParM3 2 3 4 (mG (mTup mNil)) (mG (mTup (mCons (mG (mC (.int 0))) mNil))) (mML mNil))
  (mSeq (mFor (mSeqOfS (mVar 1)) (mgName 5) (mSeq (mSet (mgName 6) (mCall 3 f_led (mCons (mG (mVar 0)) (mCons (mG (mOp ixP (mVar 3) (mNeg (mC (.int 1))))) (mCons (mG (mVar 5)) mNil)))))
  (mIf (mCmp inAP (mVar 6) (mVar 3)) (mSeq (mSet (mgName 7) (mIndex (mVar 3) (mVar 6)))
  (mSeq (mApp 4 (mTup (mCons (mG (mSl (mVar 2) mNoPart (mPart (mVar 7)))) (mCons (mG (mTup (mStar (mSl (mVar 2) (mPart (mVar 7)) mNoPart) (mCons (mG (mVar 5)) mNil)))) mNil))))
  (mPar 2 3 (mCons (mG (mSl (mVar 2) mNoPart (mPart (mVar 7)))) (mCons (mG (mSl (mVar 3) mNoPart (mPart (mOp addP (mVar 7) (mC (.int 1)))))) mNil))))) (mPar 2 3 (mCons (mG (mTup (mStar (mVar 2) (mCons (mG (mVar 5)) mNil)))) (mCons (mG (mTup (mStar (mVar 3) (mCons (mG (mVar 6)) mNil)))) mNil))))))
  (mFz 4 (mRet (mTup (mCons (mG (mVar 2)) (mCons (mG (mCa tupleP (mCons (mG (mVar 4)) mNil))) mNil)))))))
def f_walked_out : List SV → Bag → Res PD := mFn 8 b_walked_out
def b_left_out : EnvM → Bag → SRes := (mSeq (mDrop (mCallE 2 f_check_row (mCons (mG (mVar 0)) (mCons (mG (mVar 1)) mNil))))
  (mRet (mOp ixP (mCall 2 f_walked_out (mCons (mG (mVar 0)) (mCons (mG (mVar 1)) mNil))) (mC (.int 0)))))
def f_left_out : List SV → Bag → Res PD := mFn 2 b_left_out
def b_turns_in : EnvM → Bag → SRes := (mSeq (mDrop (mCallE 2 f_check_row (mCons (mG (mVar 0)) (mCons (mG (mVar 1)) mNil))))
  (mRet (mOp ixP (mCall 2 f_walked_out (mCons (mG (mVar 0)) (mCons (mG (mVar 1)) mNil))) (mC (.int 1)))))
def f_turns_in : List SV → Bag → Res PD := mFn 2 b_turns_in
def b_next_left : EnvM → Bag → SRes := (mRet (mIfE (mTru truP (mCall 2 f_is_row (mCons (mG (mVar 0)) (mCons (mG (mTup (mStar (mVar 1) (mCons (mG (mVar 2)) mNil)))) mNil)))) (mCallE 2 f_left_out (mCons (mG (mVar 0)) (mCons (mG (mTup (mStar (mVar 1) (mCons (mG (mVar 2)) mNil)))) mNil))) (mC .none)))
def f_next_left : List SV → Bag → Res PD := mFn 3 b_next_left
noncomputable def b_first_turns : EnvM → Bag → SRes := (mSeq (mOwn 1 mNil)
  (mSeq (mFor (mSeqOfS (mCall 1 f_short_rows (mCons (mG (mVar 0)) mNil))) (mgName 2) (mSeq (mSet (mgName 3) (mCallE 2 f_standings_along (mCons (mG (mVar 0)) (mCons (mG (mVar 2)) mNil))))
  (mFor (mSeqOfS (mCall 2 f_moves_at (mCons (mG (mVar 0)) (mCons (mG (mOp ixP (mVar 3) (mNeg (mC (.int 1))))) mNil)))) (mgTup (mgCons (mgName 4) (mgCons (mgName 5) mgNil)) 2) (mIf (mCmp inAP (mVar 5) (mVar 3)) (mSeq (mSet (mgName 6) (mIndex (mVar 3) (mVar 5)))
  (mApp 1 (mTup (mCons (mG (mSl (mVar 2) mNoPart (mPart (mVar 6)))) (mCons (mG (mTup (mStar (mSl (mVar 2) (mPart (mVar 6)) mNoPart) (mCons (mG (mVar 4)) mNil)))) mNil))))) mSkip))))
  (mFz 1 (mRet (mCa tupleP (mCons (mG (mVar 1)) mNil))))))
noncomputable def f_first_turns : List SV → Bag → Res PD := mFn 7 b_first_turns
def b__law_take : EnvM → Bag → SRes := (mSeq (mIf (mCmp eqP (mBagIx 0 0) (mC (.int 0))) (mSeq (mSet (mgName 2) (mOp ixP (mOp addP (mSl (mBagIx 0 3) (mPart (mBagIx 0 2)) mNoPart) (mLst (mCons (mG (mC (.int 0))) mNil))) (mC (.int 0))))
  (mSeq (mBagAug 0 2 1)
  (mSeq (mIf (mCmp geP (mVar 2) (mOp powP (mC (.int 10)) (mC (.int 18)))) (mBagSet 0 0 (mVar 2)) mSkip)
  (mSeq (mSet (mgName 3) (mOp addP (mOp addP (mOp mulAP (mBagIx 0 1) (mC (.int 48271))) (mOp modP (mCa intP (mCons (mG (mVar 2)) mNil)) (mC (.int 2147483647)))) (mOp mulAP (mC (.int 7919)) (mBagIx 0 2))))
  (mBagSet 0 1 (mOp modP (mCa intP (mCons (mG (mVar 3)) mNil)) (mC (.int 2147483647)))))))) mSkip)
  (mSeq (mIf (mCmp gtP (mBagIx 0 0) (mC (.int 0))) (mSeq (mSet (mgName 4) (mOp modP (mCa intP (mCons (mG (mBagIx 0 0)) mNil)) (mVar 1)))
  (mSeq (mBagSet 0 0 (mOp fdivP (mCa intP (mCons (mG (mBagIx 0 0)) mNil)) (mVar 1)))
  (mRet (mVar 4)))) mSkip)
  (mSeq (mSet (mgName 5) (mOp modP (mCa intP (mCons (mG (mOp mulAP (mOp addP (mBagIx 0 1) (mC (.int 1))) (mC (.int 39373)))) mNil)) (mC (.int 1000000007))))
  (mSeq (mSet (mgName 6) (mOp modP (mCa intP (mCons (mG (mOp mulAP (mOp modP (mCa intP (mCons (mG (mOp mulAP (mVar 5) (mVar 5))) mNil)) (mC (.int 998244353))) (mC (.int 30011)))) mNil)) (mC (.int 998244353))))
  (mRet (mOp modP (mCa intP (mCons (mG (mOp fdivP (mVar 6) (mC (.int 7)))) mNil)) (mVar 1)))))))
def f__law_take : List SV → Bag → Res PD := mFn 7 b__law_take
def b__law_some : EnvM → Bag → SRes := (mRet (mOp ixP (mVar 1) (mCall 2 f__law_take (mCons (mBag 0) (mCons (mG (mCa lenP (mCons (mG (mVar 1)) mNil))) mNil)))))
def f__law_some : List SV → Bag → Res PD := mFn 2 b__law_some
noncomputable def b__law_mixed : EnvM → Bag → SRes := (mSeq (mParM 2 3 (mMList (mCons (mG (mVar 1)) mNil)) (mML mNil))
  (mSeq (mWhile (mLendT 2 (mCmp neP (mVar 2) (mLst mNil))) (mAppPop 3 2 (mCall 2 f__law_take (mCons (mBag 0) (mCons (mG (mLenOwn 2)) mNil)))))
  (mFz 3 (mRet (mVar 3)))))
noncomputable def f__law_mixed : List SV → Bag → Res PD := mFn 4 b__law_mixed
noncomputable def b__law_alike : EnvM → Bag → SRes := (mSeq (mParOwn 2 3 (mCons (mG (mTup (mCons (mG (mVar 0)) (mCons (mG (mVar 1)) mNil)))) mNil) (mC (.int 0)))
  (mSeq (mWhile (mCmp ltP (mVar 3) (mLenOwn 2)) (mSeq (mSet (mgTup (mgCons (mgName 4) (mgCons (mgName 5) mgNil)) 2) (mIxOwn 2 (mVar 3)))
  (mSeq (mAug 3 (fun i j => i + j) (mC (.int 1)))
  (mSeq (mIf (mOr (mCmp neP (mIsi isBoolB (mVar 4)) (mIsi isBoolB (mVar 5))) (mCmp neP (mIsi isStrB (mVar 4)) (mIsi isStrB (mVar 5)))) (mRet (mC (.bool false))) mSkip)
  (mSeq (mIf (mCmp neP (mIsi2 isTupB isListB (mVar 4)) (mIsi2 isTupB isListB (mVar 5))) (mRet (mC (.bool false))) mSkip)
  (mIf (mTru truP (mIsi2 isTupB isListB (mVar 4))) (mSeq (mIf (mOr (mCmp neP (mIsi isTupB (mVar 4)) (mIsi isTupB (mVar 5))) (mCmp neP (mCa lenP (mCons (mG (mVar 4)) mNil)) (mCa lenP (mCons (mG (mVar 5)) mNil)))) (mRet (mC (.bool false))) mSkip)
  (mExt 2 (mCa zipP (mCons (mG (mVar 4)) (mCons (mG (mVar 5)) mNil))))) (mIf (mCmp neP (mVar 4) (mVar 5)) (mRet (mC (.bool false))) mSkip)))))))
  (mRet (mC (.bool true)))))
noncomputable def f__law_alike : List SV → Bag → Res PD := mFn 6 b__law_alike
noncomputable def b__law_machine : EnvM → Bag → SRes := (mSeq (mSet (mgName 1) (mOp addP (mC (.int 1)) (mCall 2 f__law_take (mCons (mBag 0) (mCons (mG (mC (.int 3))) mNil)))))
  (mSeq (mParM 2 3 (mG (mSl (mLst (mCons (mG (mC (.str "q"))) (mCons (mG (mC (.str "r"))) (mCons (mG (mC (.str "s"))) mNil)))) mNoPart (mPart (mVar 1)))) (mML mNil))
  (mSeq (mFor (mSeqOfS (mVar 2)) (mgName 4) (mSeq (mSet (mgName 5) (mSl (mCall 2 f__law_mixed (mCons (mBag 0) (mCons (mG (mLst (mCons (mG (mC (.str "a"))) (mCons (mG (mC (.str "b"))) (mCons (mG (mC (.str "c"))) mNil))))) mNil))) mNoPart (mPart (mCall 2 f__law_some (mCons (mBag 0) (mCons (mG (mLst (mCons (mG (mC (.int 0))) (mCons (mG (mC (.int 1))) (mCons (mG (mC (.int 1))) (mCons (mG (mC (.int 2))) (mCons (mG (mC (.int 2))) (mCons (mG (mC (.int 3))) mNil)))))))) mNil))))))
  (mApp 3 (mTup (mCons (mG (mVar 4)) (mCons (mG (mCa tupleP (mCons (mG (mLc [6] (mSeqOfS (mCa sortedAP (mCons (mG (mVar 5)) mNil))) (mgName 6) mYes (mTup (mCons (mG (mVar 6)) (mCons (mG (mCall 2 f__law_some (mCons (mBag 0) (mCons (mG (mVar 2)) mNil)))) mNil))))) mNil))) mNil))))))
  (mFz 3 (mRet (mCa tupleP (mCons (mG (mVar 3)) mNil)))))))
noncomputable def f__law_machine : List SV → Bag → Res PD := mFn 7 b__law_machine
def b__law_moves : EnvM → Bag → SRes := (mSeq (mSet (mgName 2) (mLc [3, 4] (mSeqOfS (mVar 0)) (mgTup (mgCons (mgName 3) (mgCons (mgName 4) mgNil)) 2) mYes (mVar 3)))
  (mRet (mLc [5, 3] (mSeqOfS (mOp ixP (mOp ixP (mVar 0) (mVar 1)) (mC (.int 1)))) (mgTup (mgCons (mgName 5) (mgCons (mgName 3) mgNil)) 2) mYes (mTup (mCons (mG (mVar 5)) (mCons (mG (mIndex (mVar 2) (mVar 3))) mNil))))))
def f__law_moves : List SV → Bag → Res PD := mFn 6 b__law_moves
def b__law_letters : EnvM → Bag → SRes := (mSeq (mSet (mgName 1) (mLst mNil))
  (mSeq (mFor (mSeqOfS (mVar 0)) (mgTup (mgCons (mgName 2) (mgCons (mgName 3) mgNil)) 2) (mSet (mgName 1) (mOp addP (mVar 1) (mLc [4, 5] (mSeqOfS (mVar 3)) (mgTup (mgCons (mgName 4) (mgCons (mgName 5) mgNil)) 2) mYes (mVar 4)))))
  (mRet (mSrtSetA (mVar 1)))))
def f__law_letters : List SV → Bag → Res PD := mFn 6 b__law_letters
def b__law_end : EnvM → Bag → SRes := (mSeq (mFor (mSeqOfS (mVar 2)) (mgName 3) (mSeq (mSet (mgName 4) (mLc [5, 6] (mSeqOfS (mCall 2 f__law_moves (mCons (mG (mVar 0)) (mCons (mG (mVar 1)) mNil)))) (mgTup (mgCons (mgName 5) (mgCons (mgName 6) mgNil)) 2) (mCmp eqP (mVar 5) (mVar 3)) (mVar 6)))
  (mSeq (mIf (mCmp eqP (mVar 4) (mLst mNil)) (mRet (mC .none)) mSkip)
  (mSet (mgName 1) (mOp ixP (mVar 4) (mC (.int 0)))))))
  (mRet (mVar 1)))
def f__law_end : List SV → Bag → Res PD := mFn 7 b__law_end
def b__law_is_word : EnvM → Bag → SRes := (mSeq (mIf (mOr (mNot (mTru truP (mIsi isTupB (mVar 1)))) (mCmp gtP (mCa lenP (mCons (mG (mVar 1)) mNil)) (mC (.int 400)))) (mRet (mC (.bool false))) mSkip)
  (mRet (mB (mCmp eqP (mLc [2] (mSeqOfS (mVar 1)) (mgName 2) (mOr (mNot (mTru truP (mIsi isStrB (mVar 2)))) (mCmp ninAP (mVar 2) (mCall 1 f__law_letters (mCons (mG (mVar 0)) mNil)))) (mC (.int 1))) (mLst mNil)))))
def f__law_is_word : List SV → Bag → Res PD := mFn 3 b__law_is_word
def b__law_is_row : EnvM → Bag → SRes := (mRet (mAndV (mCall 2 f__law_is_word (mCons (mG (mVar 0)) (mCons (mG (mVar 1)) mNil))) (mB (mCmp notNoneP (mCall 3 f__law_end (mCons (mG (mVar 0)) (mCons (mG (mC (.int 0))) (mCons (mG (mVar 1)) mNil)))) (mC .none)))))
def f__law_is_row : List SV → Bag → Res PD := mFn 2 b__law_is_row
noncomputable def b__law_short_rows : EnvM → Bag → SRes := (mSeq (mParOwn 1 2 mNil (mLst (mCons (mG (mTup (mCons (mG (mTup mNil)) (mCons (mG (mTup (mCons (mG (mC (.int 0))) mNil))) mNil)))) mNil)))
  (mSeq (mWhile (mCmp neP (mVar 2) (mLst mNil)) (mSeq (mSet (mgName 3) (mLst mNil))
  (mSeq (mFor (mSeqOfS (mVar 2)) (mgTup (mgCons (mgName 4) (mgCons (mgName 5) mgNil)) 2) (mSeq (mApp 1 (mVar 4))
  (mFor (mSeqOfS (mCall 2 f__law_moves (mCons (mG (mVar 0)) (mCons (mG (mOp ixP (mVar 5) (mNeg (mC (.int 1))))) mNil)))) (mgTup (mgCons (mgName 6) (mgCons (mgName 7) mgNil)) 2) (mSet (mgName 3) (mOp addP (mVar 3) (mIfE (mCmp ninAP (mVar 7) (mVar 5)) (mLst (mCons (mG (mTup (mCons (mG (mOp addP (mVar 4) (mTup (mCons (mG (mVar 6)) mNil)))) (mCons (mG (mOp addP (mVar 5) (mTup (mCons (mG (mVar 7)) mNil)))) mNil)))) mNil)) (mLst mNil)))))))
  (mSet (mgName 2) (mVar 3)))))
  (mFz 1 (mRet (mVar 1)))))
noncomputable def f__law_short_rows : List SV → Bag → Res PD := mFn 8 b__law_short_rows
def b__law_ends_along : EnvM → Bag → SRes := (mRet (mLc [2] (mRange1 (mCons (mG (mOp addP (mCa lenP (mCons (mG (mVar 1)) mNil)) (mC (.int 1)))) mNil)) (mgName 2) mYes (mCall 3 f__law_end (mCons (mG (mVar 0)) (mCons (mG (mC (.int 0))) (mCons (mG (mSl (mVar 1) mNoPart (mPart (mVar 2)))) mNil))))))
def f__law_ends_along : List SV → Bag → Res PD := mFn 3 b__law_ends_along
def b__law_walk : EnvM → Bag → SRes := (mSeq (mParM 2 3 (mG (mTup mNil)) (mML mNil))
  (mSeq (mFor (mSeqOfS (mVar 1)) (mgName 4) (mSeq (mSet (mgName 2) (mOp addP (mVar 2) (mTup (mCons (mG (mVar 4)) mNil))))
  (mSeq (mSet (mgName 5) (mCall 2 f__law_ends_along (mCons (mG (mVar 0)) (mCons (mG (mVar 2)) mNil))))
  (mIf (mCmp inAP (mOp ixP (mVar 5) (mNeg (mC (.int 1)))) (mSl (mVar 5) mNoPart (mPart (mNeg (mC (.int 1)))))) (mSeq (mSet (mgName 6) (mIndex (mVar 5) (mOp ixP (mVar 5) (mNeg (mC (.int 1))))))
  (mSeq (mApp 3 (mTup (mCons (mG (mSl (mVar 2) mNoPart (mPart (mVar 6)))) (mCons (mG (mSl (mVar 2) (mPart (mVar 6)) mNoPart)) mNil))))
  (mSet (mgName 2) (mSl (mVar 2) mNoPart (mPart (mVar 6)))))) mSkip))))
  (mFz 3 (mRet (mTup (mCons (mG (mVar 2)) (mCons (mG (mCa tupleP (mCons (mG (mVar 3)) mNil))) mNil)))))))
def f__law_walk : List SV → Bag → Res PD := mFn 7 b__law_walk
noncomputable def b__law_first : EnvM → Bag → SRes := (mSeq (mOwn 1 mNil)
  (mSeq (mFor (mSeqOfS (mCall 1 f__law_short_rows (mCons (mG (mVar 0)) mNil))) (mgName 2) (mSeq (mSet (mgName 3) (mCall 2 f__law_ends_along (mCons (mG (mVar 0)) (mCons (mG (mVar 2)) mNil))))
  (mFor (mSeqOfS (mCall 2 f__law_moves (mCons (mG (mVar 0)) (mCons (mG (mOp ixP (mVar 3) (mNeg (mC (.int 1))))) mNil)))) (mgTup (mgCons (mgName 4) (mgCons (mgName 5) mgNil)) 2) (mIf (mCmp inAP (mVar 5) (mVar 3)) (mApp 1 (mTup (mCons (mG (mSl (mVar 2) mNoPart (mPart (mIndex (mVar 3) (mVar 5))))) (mCons (mG (mOp addP (mSl (mVar 2) (mPart (mIndex (mVar 3) (mVar 5))) mNoPart) (mTup (mCons (mG (mVar 4)) mNil)))) mNil)))) mSkip))))
  (mFz 1 (mRet (mCa tupleP (mCons (mG (mVar 1)) mNil))))))
noncomputable def f__law_first : List SV → Bag → Res PD := mFn 6 b__law_first
def b__law_drawn_row : EnvM → Bag → SRes := (mSeq (mSet (mgTup (mgCons (mgName 3) (mgCons (mgName 4) mgNil)) 2) (mTup (mCons (mG (mTup mNil)) (mCons (mG (mC (.int 0))) mNil))))
  (mSeq (mFor (mRange1 (mCons (mG (mVar 2)) mNil)) (mgName 5) (mSeq (mSet (mgName 6) (mCall 2 f__law_moves (mCons (mG (mVar 1)) (mCons (mG (mVar 4)) mNil))))
  (mIf (mCmp neP (mVar 6) (mLst mNil)) (mSeq (mSet (mgTup (mgCons (mgName 7) (mgCons (mgName 4) mgNil)) 2) (mCall 2 f__law_some (mCons (mBag 0) (mCons (mG (mVar 6)) mNil))))
  (mSet (mgName 3) (mOp addP (mVar 3) (mTup (mCons (mG (mVar 7)) mNil))))) mSkip)))
  (mRet (mVar 3))))
def f__law_drawn_row : List SV → Bag → Res PD := mFn 8 b__law_drawn_row
/- machine = _law_machine(bag) -/
noncomputable def ml_0 : EnvM → Bag → SRes := (mSet (mgName 3) (mCall 1 f__law_machine (mCons (mBag 1) mNil)))
/- shorts, firsts = (tuple(_law_short_rows(machine)), _law_first(machine)) -/
noncomputable def ml_1 : EnvM → Bag → SRes := (mSet (mgTup (mgCons (mgName 4) (mgCons (mgName 5) mgNil)) 2) (mTup (mCons (mG (mCa tupleP (mCons (mG (mCall 1 f__law_short_rows (mCons (mG (mVar 3)) mNil))) mNil))) (mCons (mG (mCall 1 f__law_first (mCons (mG (mVar 3)) mNil))) mNil))))
/- return False -/
noncomputable def ml_2 : EnvM → Bag → SRes := (mRet (mC (.bool false)))
/- if not _law_alike([short_rows(machine), first_turns(machine)], [shorts, firsts]): -/
noncomputable def ml_3 : EnvM → Bag → SRes := (mIf (mNot (mTru truP (mCall 2 f__law_alike (mCons (mG (mLst (mCons (mG (mCall 1 f_short_rows (mCons (mG (mVar 3)) mNil))) (mCons (mG (mCallE 1 f_first_turns (mCons (mG (mVar 3)) mNil))) mNil)))) (mCons (mG (mLst (mCons (mG (mVar 4)) (mCons (mG (mVar 5)) mNil)))) mNil))))) ml_2 mSkip)
/- row = _law_drawn_row(bag, machine, _law_take(bag, 13)) -/
noncomputable def ml_4 : EnvM → Bag → SRes := (mSet (mgName 7) (mCall 3 f__law_drawn_row (mCons (mBag 1) (mCons (mG (mVar 3)) (mCons (mG (mCall 2 f__law_take (mCons (mBag 1) (mCons (mG (mC (.int 13))) mNil)))) mNil)))))
/- ends, (kept, gone) = (_law_ends_along(machine, row), _law_walk(machine, row)) -/
noncomputable def ml_5 : EnvM → Bag → SRes := (mSet (mgTup (mgCons (mgName 8) (mgCons (mgTup (mgCons (mgName 9) (mgCons (mgName 10) mgNil)) 2) mgNil)) 2) (mTup (mCons (mG (mCall 2 f__law_ends_along (mCons (mG (mVar 3)) (mCons (mG (mVar 7)) mNil)))) (mCons (mG (mCall 2 f__law_walk (mCons (mG (mVar 3)) (mCons (mG (mVar 7)) mNil)))) mNil))))
/- return False -/
noncomputable def ml_6 : EnvM → Bag → SRes := (mRet (mC (.bool false)))
/- if not _law_alike([standings_along(machine, row), left_out(machine, row), turns_in(machine, row)], [tuple(ends), kept, gone]): -/
noncomputable def ml_7 : EnvM → Bag → SRes := (mIf (mNot (mTru truP (mCall 2 f__law_alike (mCons (mG (mLst (mCons (mG (mCallE 2 f_standings_along (mCons (mG (mVar 3)) (mCons (mG (mVar 7)) mNil)))) (mCons (mG (mCallE 2 f_left_out (mCons (mG (mVar 3)) (mCons (mG (mVar 7)) mNil)))) (mCons (mG (mCallE 2 f_turns_in (mCons (mG (mVar 3)) (mCons (mG (mVar 7)) mNil)))) mNil))))) (mCons (mG (mLst (mCons (mG (mCa tupleP (mCons (mG (mVar 8)) mNil))) (mCons (mG (mVar 9)) (mCons (mG (mVar 10)) mNil))))) mNil))))) ml_6 mSkip)
/- return False -/
noncomputable def ml_8 : EnvM → Bag → SRes := (mRet (mC (.bool false)))
/- if [1 for one in gone if one not in firsts] != [] or _law_end(machine, 0, kept) != ends[-1] or kept not in shorts: -/
noncomputable def ml_9 : EnvM → Bag → SRes := (mIf (mOr (mCmp neP (mLc [15] (mSeqOfS (mVar 10)) (mgName 15) (mCmp ninAP (mVar 15) (mVar 5)) (mC (.int 1))) (mLst mNil)) (mOr (mCmp neP (mCall 3 f__law_end (mCons (mG (mVar 3)) (mCons (mG (mC (.int 0))) (mCons (mG (mVar 9)) mNil)))) (mOp ixP (mVar 8) (mNeg (mC (.int 1))))) (mCmp ninAP (mVar 9) (mVar 4)))) ml_8 mSkip)
/- good = _law_is_row(machine, thing) -/
noncomputable def ml_10 : EnvM → Bag → SRes := (mSet (mgName 12) (mCall 2 f__law_is_row (mCons (mG (mVar 3)) (mCons (mG (mVar 11)) mNil))))
/- short = good and len(set(_law_ends_along(machine, thing))) == len(thing) + 1 -/
noncomputable def ml_11 : EnvM → Bag → SRes := (mSet (mgName 13) (mAndV (mVar 12) (mB (mCmp eqP (mLenSetI (mCall 2 f__law_ends_along (mCons (mG (mVar 3)) (mCons (mG (mVar 11)) mNil)))) (mOp addP (mCa lenP (mCons (mG (mVar 11)) mNil)) (mC (.int 1)))))))
/- return False -/
noncomputable def ml_12 : EnvM → Bag → SRes := (mRet (mC (.bool false)))
/- if not _law_alike(is_short(machine, thing), short): -/
noncomputable def ml_13 : EnvM → Bag → SRes := (mIf (mNot (mTru truP (mCall 2 f__law_alike (mCons (mG (mCallE 2 f_is_short (mCons (mG (mVar 3)) (mCons (mG (mVar 11)) mNil)))) (mCons (mG (mVar 13)) mNil))))) ml_12 mSkip)
/- return False -/
noncomputable def ml_14 : EnvM → Bag → SRes := (mRet (mC (.bool false)))
/- if not good and _law_caught(lambda: left_out(machine, thing)) != ('refused', 'row'): -/
noncomputable def ml_15 : EnvM → Bag → SRes := (mIf (mAnd (mNot (mTru truP (mVar 12))) (mCmp neP (mLam g__law_caught (mCallE 2 f_left_out (mCons (mG (mVar 3)) (mCons (mG (mVar 11)) mNil)))) (mTup (mCons (mG (mC (.str "refused"))) (mCons (mG (mC (.str "row"))) mNil))))) ml_14 mSkip)
/- return False -/
noncomputable def ml_16 : EnvM → Bag → SRes := (mRet (mC (.bool false)))
/- if not good and _law_caught(lambda: standings_along(machine, thing)) != ('refused', 'row'): -/
noncomputable def ml_17 : EnvM → Bag → SRes := (mIf (mAnd (mNot (mTru truP (mVar 12))) (mCmp neP (mLam g__law_caught (mCallE 2 f_standings_along (mCons (mG (mVar 3)) (mCons (mG (mVar 11)) mNil)))) (mTup (mCons (mG (mC (.str "refused"))) (mCons (mG (mC (.str "row"))) mNil))))) ml_16 mSkip)
/- for thing in (row, kept, list(row), None, ('zz',), row + ('zz',), 5): -/
noncomputable def ml_18 : EnvM → Bag → SRes := (mFor (mSeqOfS (mTup (mCons (mG (mVar 7)) (mCons (mG (mVar 9)) (mCons (mG (mCa listP (mCons (mG (mVar 7)) mNil))) (mCons (mG (mC .none)) (mCons (mG (mTup (mCons (mG (mC (.str "zz"))) mNil))) (mCons (mG (mOp addP (mVar 7) (mTup (mCons (mG (mC (.str "zz"))) mNil)))) (mCons (mG (mC (.int 5))) mNil))))))))) (mgName 11) (mSeq ml_10
  (mSeq ml_11
  (mSeq ml_13
  (mSeq ml_15
  ml_17)))))
/- short = _law_some(bag, list(shorts)) -/
noncomputable def ml_19 : EnvM → Bag → SRes := (mSet (mgName 13) (mCall 2 f__law_some (mCons (mBag 1) (mCons (mG (mCa listP (mCons (mG (mVar 4)) mNil))) mNil))))
/- good = _law_end(machine, 0, short + (letter,)) is not None -/
noncomputable def ml_20 : EnvM → Bag → SRes := (mSet (mgName 12) (mB (mCmp notNoneP (mCall 3 f__law_end (mCons (mG (mVar 3)) (mCons (mG (mC (.int 0))) (mCons (mG (mOp addP (mVar 13) (mTup (mCons (mG (mVar 14)) mNil)))) mNil)))) (mC .none))))
/- return False -/
noncomputable def ml_21 : EnvM → Bag → SRes := (mRet (mC (.bool false)))
/- if not _law_alike(next_left(machine, short, letter), _law_walk(machine, short + (letter,))[0] if good else None): -/
noncomputable def ml_22 : EnvM → Bag → SRes := (mIf (mNot (mTru truP (mCall 2 f__law_alike (mCons (mG (mCallE 3 f_next_left (mCons (mG (mVar 3)) (mCons (mG (mVar 13)) (mCons (mG (mVar 14)) mNil))))) (mCons (mG (mIfE (mTru truP (mVar 12)) (mOp ixP (mCall 2 f__law_walk (mCons (mG (mVar 3)) (mCons (mG (mOp addP (mVar 13) (mTup (mCons (mG (mVar 14)) mNil)))) mNil))) (mC (.int 0))) (mC .none))) mNil))))) ml_21 mSkip)
/- for letter in _law_letters(machine) + ['zz']: -/
noncomputable def ml_23 : EnvM → Bag → SRes := (mFor (mSeqOfS (mOp addP (mCall 1 f__law_letters (mCons (mG (mVar 3)) mNil)) (mLst (mCons (mG (mC (.str "zz"))) mNil)))) (mgName 14) (mSeq ml_20
  ml_22))
/- for trial in range(4): -/
noncomputable def ml_24 : EnvM → Bag → SRes := (mFor (mRange1 (mCons (mG (mC (.int 4))) mNil)) (mgName 6) (mSeq ml_4
  (mSeq ml_5
  (mSeq ml_7
  (mSeq ml_9
  (mSeq ml_18
  (mSeq ml_19
  ml_23)))))))
/- for turn in range(6): -/
noncomputable def ml_25 : EnvM → Bag → SRes := (mFor (mRange1 (mCons (mG (mC (.int 6))) mNil)) (mgName 2) (mSeq ml_0
  (mSeq ml_1
  (mSeq ml_3
  ml_24))))
/- return True -/
noncomputable def ml_26 : EnvM → Bag → SRes := (mRet (mC (.bool true)))
noncomputable def m_law : EnvM → Bag → SRes := (mSeq ml_25
  ml_26)

end DL
set_option Elab.async false
set_option linter.all false
set_option maxRecDepth 100000
set_option maxHeartbeats 4000000
/-! QA: _law_alike of a thing with itself. -/
namespace DL
open PySem L2
mutual
def nd : PD → Nat
  | .list xs => 1 + nds xs
  | .tuple xs => 1 + nds xs
  | _ => 1
def nds : List PD → Nat
  | [] => 0
  | x :: r => nd x + nds r
end
mutual
def okA : PD → Bool
  | .list xs => okAs xs
  | .tuple xs => okAs xs
  | .dict _ => false
  | .str x => SeqAt.shaped (.str x)
  | _ => true
def okAs : List PD → Bool
  | [] => true
  | x :: r => okA x && okAs r
end
theorem nds_append : ∀ (xs ys : List PD), nds (xs ++ ys) = nds xs + nds ys
  | [], ys => by simp [nds]
  | x :: r, ys => by simp only [List.cons_append, nds, nds_append r ys]; omega
theorem okAs_append : ∀ (xs ys : List PD), okAs (xs ++ ys) = (okAs xs && okAs ys)
  | [], ys => by simp [okAs]
  | x :: r, ys => by simp only [List.cons_append, okAs, okAs_append r ys, Bool.and_assoc]
theorem nd_pos (x : PD) : 1 ≤ nd x := by cases x <;> simp [nd] <;> omega
theorem len_nds : ∀ xs : List PD, xs.length ≤ nds xs
  | [] => by simp [nds]
  | x :: r => by have := len_nds r; have := nd_pos x; simp only [List.length_cons, nds]; omega
def dupA (x : PD) : PD := .tuple [x, x]
theorem zip_dup : ∀ xs : List PD, List.zipWith (fun x y => PyData.tuple [x, y]) xs xs = xs.map dupA
  | [] => rfl
  | x :: r => by simp only [List.zipWith, List.map, zip_dup r]; rfl
def isSeqB : PD → Bool
  | .list _ => true
  | .tuple _ => true
  | _ => false
theorem neP_none : neP .none .none = some false := by
  unfold neP
  rw [if_pos ⟨by decide, by decide⟩]
  rfl
theorem neP_self {x : PD} (h : okA x = true) (hs : isSeqB x = false) : neP x x = some false := by
  cases x with
  | list xs => cases hs
  | tuple xs => cases hs
  | dict xs => cases h
  | int i => rw [neP_int]; simp
  | bool b => rw [neP_bool]; simp
  | none => exact neP_none
  | str s =>
    unfold neP
    rw [if_pos ⟨h, h⟩]
    show some (!PyData.eqv (.str s) (.str s)) = some false
    simp [PyData.eqv]
abbrev alC : EnvM → Bag → Res Bool := mCmp ltP (mVar 3) (mLenOwn 2)
abbrev alB : EnvM → Bag → SRes := (mSeq (mSet (mgTup (mgCons (mgName 4) (mgCons (mgName 5) mgNil)) 2) (mIxOwn 2 (mVar 3)))
  (mSeq (mAug 3 (fun i j => i + j) (mC (.int 1)))
  (mSeq (mIf (mOr (mCmp neP (mIsi isBoolB (mVar 4)) (mIsi isBoolB (mVar 5))) (mCmp neP (mIsi isStrB (mVar 4)) (mIsi isStrB (mVar 5)))) (mRet (mC (.bool false))) mSkip)
  (mSeq (mIf (mCmp neP (mIsi2 isTupB isListB (mVar 4)) (mIsi2 isTupB isListB (mVar 5))) (mRet (mC (.bool false))) mSkip)
  (mIf (mTru truP (mIsi2 isTupB isListB (mVar 4))) (mSeq (mIf (mOr (mCmp neP (mIsi isTupB (mVar 4)) (mIsi isTupB (mVar 5))) (mCmp neP (mCa lenP (mCons (mG (mVar 4)) mNil)) (mCa lenP (mCons (mG (mVar 5)) mNil)))) (mRet (mC (.bool false))) mSkip)
  (mExt 2 (mCa zipP (mCons (mG (mVar 4)) (mCons (mG (mVar 5)) mNil))))) (mIf (mCmp neP (mVar 4) (mVar 5)) (mRet (mC (.bool false))) mSkip))))))
theorem wh_end {c : EnvM → Bag → Res Bool} {body : EnvM → Bag → SRes} {env : EnvM} {B : Bag} (h : c env B = .ok false B) : mWhile c body env B = .nx env B := mWhile_end h
theorem wh_turn {c : EnvM → Bag → Res Bool} {body : EnvM → Bag → SRes} {env e1 e2 : EnvM} {B B0 B1 B2 : Bag} (h : c env B = .ok true B0) (hb : body env B0 = .nx e1 B1) (h2 : mWhile c body e1 B1 = .nx e2 B2) : mWhile c body env B = .nx e2 B2 :=
  (mWhile_turn h hb (by rw [h2]; intro z; cases z)).trans h2
theorem neB {f : PD → Bool} {env : EnvM} {B : Bag} {x : PD} (h4 : mVar 4 env B = .ok x B) (h5 : mVar 5 env B = .ok x B) : mCmp neP (mIsi f (mVar 4)) (mIsi f (mVar 5)) env B = .ok false B :=
  r_cmp (r_isi h4) (r_isi h5) (by rw [neP_bool]; simp)
theorem s_ext {i : Nat} {m : EnvM → Bag → Res PD} {env : EnvM} {B B1 : Bag} {xs ys : List PD} (h : m env B = .ok (.list ys) B1) (he : env[i]? = some (some (.own xs))) (hl : xs.length + ys.length ≤ sizeLine) : mExt i m env B = .nx (env.set i (some (.own (xs ++ ys)))) B1 := by
  unfold mExt; rw [he]; simp only [h, Res.s, hl, if_true]
def kidsA : PD → List PD
  | .list xs => xs
  | .tuple xs => xs
  | _ => []
theorem nd_kids (x : PD) : nd x = 1 + nds (kidsA x) := by cases x <;> simp [nd, kidsA, nds]
theorem okA_kids {x : PD} (h : okA x = true) : okAs (kidsA x) = true := by cases x <;> first | exact h | rfl
theorem isSeqB_is (x : PD) : (isTupB x || isListB x) = isSeqB x := by cases x <;> rfl
abbrev alE (a b : Option SV) (ow : List PD) (k : Nat) (o4 o5 : Option SV) : EnvM := [a, b, some (.own ow), some (.d (.int (k : Int))), o4, o5]
theorem alB_turn {x : PD} {done r : List PD} {a b : Option SV} {o4 o5 : Option SV} {B : Bag} (h : okA x = true) (hl : done.length + nd x + nds r ≤ sizeLine) :
    alB (alE a b (done ++ dupA x :: r.map dupA) done.length o4 o5) B = .nx (alE a b ((done ++ [dupA x]) ++ (r ++ kidsA x).map dupA) (done ++ [dupA x]).length (some (.d x)) (some (.d x))) B := by
  refine s_seq (B1 := B) (e1 := alE a b (done ++ dupA x :: r.map dupA) done.length (some (.d x)) (some (.d x))) ?_ ?_
  · refine s_set (x := dupA x) (B1 := B) ?_ rfl
    have e : atI (done ++ dupA x :: r.map dupA) (done.length : Int) = some (dupA x) := atI_nat' (by simp)
    show (match atI (done ++ dupA x :: r.map dupA) (done.length : Int) with | some z => Res.ok z B | none => .bad) = _
    rw [e]
  refine s_seq (B1 := B) (e1 := alE a b (done ++ dupA x :: r.map dupA) (done ++ [dupA x]).length (some (.d x)) (some (.d x))) ?_ ?_
  · show SRes.nx [a, b, _, some (.d (.int ((done.length : Int) + 1))), _, _] B = _
    have e : ((done.length : Int) + 1) = ((done ++ [dupA x]).length : Int) := by simp
    rw [e]
  refine s_seq (s_ifF (r_orF (neB (x := x) rfl rfl) (neB (x := x) rfl rfl)) s_skip) ?_
  refine s_seq (s_ifF (r_cmp (r_isi2 (r_var (x := x) rfl)) (r_isi2 (r_var (x := x) rfl)) (by rw [neP_bool]; simp)) s_skip) ?_
  have lk : (done ++ dupA x :: r.map dupA).length + ((kidsA x).map dupA).length ≤ sizeLine := by
    have := nd_kids x; have := len_nds r; have := len_nds (kidsA x)
    simp only [List.length_append, List.length_cons, List.length_map]; omega
  by_cases hs : isSeqB x = true
  · have fin : (unD [.d x, .d x]).bind zipP = some (.list ((kidsA x).map dupA)) ∧ ∃ n : Int, (unD [.d x]).bind lenP = some (.int n) := by
      cases x with
      | list xs => exact ⟨by show (if xs.length = xs.length then _ else _) = _; rw [if_pos rfl, zip_dup]; rfl, _, rfl⟩
      | tuple xs => exact ⟨by show (if xs.length = xs.length then _ else _) = _; rw [if_pos rfl, zip_dup]; rfl, _, rfl⟩
      | _ => cases hs
    obtain ⟨hz, n, hn⟩ := fin
    refine s_ifT (r_truB (k := true) (by rw [← hs, ← isSeqB_is]; exact r_isi2 (r_var (x := x) rfl))) ?_
    refine s_seq (s_ifF (r_orF (neB (x := x) rfl rfl) (r_cmp (r_ca (r_cons (r_g (r_var (x := x) rfl)) r_nil) hn) (r_ca (r_cons (r_g (r_var (x := x) rfl)) r_nil) hn) (by rw [neP_int]; simp))) s_skip) ?_
    have e := s_ext (i := 2) (env := alE a b (done ++ dupA x :: r.map dupA) (done ++ [dupA x]).length (some (.d x)) (some (.d x))) (B := B) (m := mCa zipP (mCons (mG (mVar 4)) (mCons (mG (mVar 5)) mNil)))
      (r_ca (r_cons (r_g (r_var (x := x) rfl)) (r_cons (r_g (r_var (x := x) rfl)) r_nil)) hz) rfl lk
    rw [e]
    show SRes.nx (alE _ _ _ _ _ _) B = _
    have e2 : (done ++ dupA x :: r.map dupA) ++ (kidsA x).map dupA = (done ++ [dupA x]) ++ (r ++ kidsA x).map dupA := by simp
    rw [e2]
  · have hf : isSeqB x = false := by cases q : isSeqB x with | true => exact absurd q hs | false => rfl
    have hk : kidsA x = [] := by cases x <;> first | rfl | exact absurd rfl hs
    refine s_ifF (r_truB (k := false) (by rw [← hf, ← isSeqB_is]; exact r_isi2 (r_var (x := x) rfl))) ?_
    refine s_ifF (r_cmp (r_var (x := x) rfl) (r_var (x := x) rfl) (neP_self h hf)) ?_
    have e2 : done ++ dupA x :: r.map dupA = (done ++ [dupA x]) ++ (r ++ kidsA x).map dupA := by rw [hk]; simp
    rw [e2]
    exact s_skip
theorem al_turns : ∀ (n : Nat) (todo done : List PD) (a b o4 o5 : Option SV) (B : Bag), nds todo ≤ n → okAs todo = true → done.length + nds todo ≤ sizeLine →
    ∃ e2, mWhile alC alB (alE a b (done ++ todo.map dupA) done.length o4 o5) B = .nx e2 B
  | n, [], done, a, b, o4, o5, B, _, _, _ => ⟨_, wh_end (r_cmp (x := .int (done.length : Int)) (y := .int (done.length : Int)) rfl (by simp only [List.map_nil, List.append_nil]; rfl) (by rw [ltP_int]; simp))⟩
  | 0, x :: r, done, a, b, o4, o5, B, h, _, _ => absurd h (by have := nd_pos x; simp only [nds]; omega)
  | n + 1, x :: r, done, a, b, o4, o5, B, h, ho, hl => by
    simp only [okAs, Bool.and_eq_true] at ho
    simp only [nds] at h hl
    have hk := nd_kids x
    obtain ⟨e2, h2⟩ := al_turns n (r ++ kidsA x) (done ++ [dupA x]) a b (some (.d x)) (some (.d x)) B (by rw [nds_append]; omega) (by rw [okAs_append, ho.2, okA_kids ho.1]; rfl) (by rw [nds_append, List.length_append, List.length_singleton]; omega)
    exact ⟨e2, wh_turn (r_cmp (x := .int (done.length : Int)) (y := .int ((done ++ (x :: r).map dupA).length : Int)) rfl rfl (by rw [ltP_int]; simp; omega)) (alB_turn ho.1 (by omega)) h2⟩
theorem alike_self {d : PD} (h : okA d = true) (hl : nd d ≤ sizeLine) (B : Bag) : f__law_alike [.d d, .d d] B = .ok (.bool true) B := by
  unfold f__law_alike b__law_alike
  obtain ⟨e2, h2⟩ := al_turns (nd d) [d] [] (some (.d d)) (some (.d d)) none none B (by simp [nds]) (by simp [okAs, h]) (by simp [nds, hl])
  exact s_fn (s_seq (B1 := B) (e1 := alE (some (.d d)) (some (.d d)) [dupA d] 0 none none) rfl (s_seq h2 (s_ret rfl)))
end DL
set_option Elab.async false
set_option linter.all false
set_option maxRecDepth 100000
set_option maxHeartbeats 4000000
/-! QB: the draws. -/
namespace DL
open PySem L2
theorem mulAP_r {a b : Int} (h : -(2 ^ 64) < b ∧ b < 2 ^ 64) : mulAP (.int a) (.int b) = some (.int (a * b)) := by unfold mulAP gOr; rw [mulP_r h]
theorem mulAP_l {a b : Int} (h : -(2 ^ 64) < a ∧ a < 2 ^ 64) : mulAP (.int a) (.int b) = some (.int (a * b)) := by unfold mulAP gOr; rw [mulP_l h]
theorem cell_at (cells : List Nat) (k : Nat) (h : cells.length ≤ 63) : ∃ d, ∃ c : Nat, addP (.list (cutP (cells.map fun n : Nat => PyData.int (n : Int)) (some (k : Int)) none)) (.list [.int 0]) = some d ∧ ixP d (.int 0) = some (.int (c : Int)) := by
  have hl : (cutP (cells.map fun n : Nat => PyData.int (n : Int)) (some (k : Int)) none).length ≤ 63 := by
    unfold cutP
    rw [List.length_take, List.length_drop, List.length_map]
    omega
  have e : addP (.list (cutP (cells.map fun n : Nat => PyData.int (n : Int)) (some (k : Int)) none)) (.list [.int 0]) = some (.list (cutP (cells.map fun n : Nat => PyData.int (n : Int)) (some (k : Int)) none ++ [.int 0])) := by
    show (if _ then _ else _) = _
    rw [if_pos]
    rw [sizeLine_eq]
    show _ + 1 ≤ _
    omega
  suffices hh : ∃ c : Nat, atI (cutP (cells.map fun n : Nat => PyData.int (n : Int)) (some (k : Int)) none ++ [.int 0]) 0 = some (.int (c : Int)) by
    obtain ⟨c, hc⟩ := hh
    exact ⟨_, c, e, hc⟩
  cases q : (cutP (cells.map fun n : Nat => PyData.int (n : Int)) (some (k : Int)) none) with
  | nil => exact ⟨0, atI0 _ _⟩
  | cons d r =>
    have hd : d ∈ cells.map fun n : Nat => PyData.int (n : Int) := by
      have : d ∈ cutP (cells.map fun n : Nat => PyData.int (n : Int)) (some (k : Int)) none := by rw [q]; exact List.mem_cons_self
      exact List.mem_of_mem_drop (List.mem_of_mem_take this)
    obtain ⟨c, _, e⟩ := List.mem_map.mp hd
    exact ⟨c, by rw [← e]; exact atI0 _ _⟩
theorem pw18 : powP (.int 10) (.int 18) = some (.int (10 ^ 18)) := rfl
def tkA : EnvM → Bag → SRes := (mIf (mCmp eqP (mBagIx 0 0) (mC (.int 0))) (mSeq (mSet (mgName 2) (mOp ixP (mOp addP (mSl (mBagIx 0 3) (mPart (mBagIx 0 2)) mNoPart) (mLst (mCons (mG (mC (.int 0))) mNil))) (mC (.int 0))))
  (mSeq (mBagAug 0 2 1)
  (mSeq (mIf (mCmp geP (mVar 2) (mOp powP (mC (.int 10)) (mC (.int 18)))) (mBagSet 0 0 (mVar 2)) mSkip)
  (mSeq (mSet (mgName 3) (mOp addP (mOp addP (mOp mulAP (mBagIx 0 1) (mC (.int 48271))) (mOp modP (mCa intP (mCons (mG (mVar 2)) mNil)) (mC (.int 2147483647)))) (mOp mulAP (mC (.int 7919)) (mBagIx 0 2))))
  (mBagSet 0 1 (mOp modP (mCa intP (mCons (mG (mVar 3)) mNil)) (mC (.int 2147483647)))))))) mSkip)
def tkB : EnvM → Bag → SRes := (mSeq (mIf (mCmp gtP (mBagIx 0 0) (mC (.int 0))) (mSeq (mSet (mgName 4) (mOp modP (mCa intP (mCons (mG (mBagIx 0 0)) mNil)) (mVar 1)))
  (mSeq (mBagSet 0 0 (mOp fdivP (mCa intP (mCons (mG (mBagIx 0 0)) mNil)) (mVar 1)))
  (mRet (mVar 4)))) mSkip)
  (mSeq (mSet (mgName 5) (mOp modP (mCa intP (mCons (mG (mOp mulAP (mOp addP (mBagIx 0 1) (mC (.int 1))) (mC (.int 39373)))) mNil)) (mC (.int 1000000007))))
  (mSeq (mSet (mgName 6) (mOp modP (mCa intP (mCons (mG (mOp mulAP (mOp modP (mCa intP (mCons (mG (mOp mulAP (mVar 5) (mVar 5))) mNil)) (mC (.int 998244353))) (mC (.int 30011)))) mNil)) (mC (.int 998244353))))
  (mRet (mOp modP (mCa intP (mCons (mG (mOp fdivP (mVar 6) (mC (.int 7)))) mNil)) (mVar 1))))))
theorem tkB_ok (n : Int) (h1 : 1 ≤ n) (h2 : n < 1073741824) (s0 s1 s2 : Nat) (cells : List Nat) (o2 o3 : Option SV) : ∃ r B', tkB [some .bag, some (.d (.int n)), o2, o3, none, none, none] ⟨s0, s1, s2, cells⟩ = .ret (.int r) B' ∧ 0 ≤ r ∧ r < n ∧ B'.cells = cells := by
  unfold tkB
  have hn : 0 < n := by omega
  by_cases h0 : 0 < s0
  · have hp : gtP (.int (s0 : Int)) (.int 0) = some true := by rw [gtP_int, decide_eq_true (by omega)]
    have hd : 0 ≤ (s0 : Int) / n := Int.ediv_nonneg (by omega) (by omega)
    have hq := fdivP_pos (a := (s0 : Int)) hn h2
    refine ⟨?r0, ?B0, ?h0, ?p0, ?q0, ?c0⟩
    case h0 =>
      refine s_seqR (s_ifT (by repeat' first | with_reducible assumption | with_reducible exact r_c | with_reducible exact r_noPart | with_reducible exact r_nil | with_reducible exact s_skip | with_reducible apply r_var | with_reducible apply r_bag | with_reducible apply r_op | with_reducible apply r_cmp | with_reducible apply r_b | with_reducible apply r_isi | with_reducible apply r_isi2 | with_reducible apply r_neg | with_reducible apply r_g | with_reducible apply r_cons | with_reducible apply r_tup | with_reducible apply r_lst | with_reducible apply r_ca | with_reducible apply r_bagIx | with_reducible apply r_sl | with_reducible apply r_part | with_reducible apply r_not | with_reducible apply r_rev | with_reducible apply r_seqT | with_reducible apply s_set | with_reducible apply s_par | with_reducible apply s_ret | with_reducible apply s_bagSet | with_reducible apply s_bagAug | with_reducible exact addP_int _ _ | with_reducible exact subP_int _ _ | with_reducible exact eqP_int _ _ | with_reducible exact neP_int _ _ | with_reducible exact ltP_int _ _ | with_reducible exact leP_int _ _ | with_reducible exact gtP_int _ _ | with_reducible exact geP_int _ _ | with_reducible exact intP_int _ | with_reducible exact absP_int _ | with_reducible exact modP_pos (by first | assumption | decide) | with_reducible exact mulP_r (by decide) | with_reducible exact mulP_l (by decide) | with_reducible exact mulAP_r (by decide) | with_reducible exact mulAP_l (by decide) | exact rfl) ?_)
      refine s_seq (by repeat' first | with_reducible assumption | with_reducible exact r_c | with_reducible exact r_noPart | with_reducible exact r_nil | with_reducible exact s_skip | with_reducible apply r_var | with_reducible apply r_bag | with_reducible apply r_op | with_reducible apply r_cmp | with_reducible apply r_b | with_reducible apply r_isi | with_reducible apply r_isi2 | with_reducible apply r_neg | with_reducible apply r_g | with_reducible apply r_cons | with_reducible apply r_tup | with_reducible apply r_lst | with_reducible apply r_ca | with_reducible apply r_bagIx | with_reducible apply r_sl | with_reducible apply r_part | with_reducible apply r_not | with_reducible apply r_rev | with_reducible apply r_seqT | with_reducible apply s_set | with_reducible apply s_par | with_reducible apply s_ret | with_reducible apply s_bagSet | with_reducible apply s_bagAug | with_reducible exact addP_int _ _ | with_reducible exact subP_int _ _ | with_reducible exact eqP_int _ _ | with_reducible exact neP_int _ _ | with_reducible exact ltP_int _ _ | with_reducible exact leP_int _ _ | with_reducible exact gtP_int _ _ | with_reducible exact geP_int _ _ | with_reducible exact intP_int _ | with_reducible exact absP_int _ | with_reducible exact modP_pos (by first | assumption | decide) | with_reducible exact mulP_r (by decide) | with_reducible exact mulP_l (by decide) | with_reducible exact mulAP_r (by decide) | with_reducible exact mulAP_l (by decide) | exact rfl) (s_seq (by repeat' first | with_reducible assumption | with_reducible exact r_c | with_reducible exact r_noPart | with_reducible exact r_nil | with_reducible exact s_skip | with_reducible apply r_var | with_reducible apply r_bag | with_reducible apply r_op | with_reducible apply r_cmp | with_reducible apply r_b | with_reducible apply r_isi | with_reducible apply r_isi2 | with_reducible apply r_neg | with_reducible apply r_g | with_reducible apply r_cons | with_reducible apply r_tup | with_reducible apply r_lst | with_reducible apply r_ca | with_reducible apply r_bagIx | with_reducible apply r_sl | with_reducible apply r_part | with_reducible apply r_not | with_reducible apply r_rev | with_reducible apply r_seqT | with_reducible apply s_set | with_reducible apply s_par | with_reducible apply s_ret | with_reducible apply s_bagSet | with_reducible apply s_bagAug | with_reducible exact addP_int _ _ | with_reducible exact subP_int _ _ | with_reducible exact eqP_int _ _ | with_reducible exact neP_int _ _ | with_reducible exact ltP_int _ _ | with_reducible exact leP_int _ _ | with_reducible exact gtP_int _ _ | with_reducible exact geP_int _ _ | with_reducible exact intP_int _ | with_reducible exact absP_int _ | with_reducible exact modP_pos (by first | assumption | decide) | with_reducible exact mulP_r (by decide) | with_reducible exact mulP_l (by decide) | with_reducible exact mulAP_r (by decide) | with_reducible exact mulAP_l (by decide) | exact rfl) (s_ret (by repeat' first | with_reducible assumption | with_reducible exact r_c | with_reducible exact r_noPart | with_reducible exact r_nil | with_reducible exact s_skip | with_reducible apply r_var | with_reducible apply r_bag | with_reducible apply r_op | with_reducible apply r_cmp | with_reducible apply r_b | with_reducible apply r_isi | with_reducible apply r_isi2 | with_reducible apply r_neg | with_reducible apply r_g | with_reducible apply r_cons | with_reducible apply r_tup | with_reducible apply r_lst | with_reducible apply r_ca | with_reducible apply r_bagIx | with_reducible apply r_sl | with_reducible apply r_part | with_reducible apply r_not | with_reducible apply r_rev | with_reducible apply r_seqT | with_reducible apply s_set | with_reducible apply s_par | with_reducible apply s_ret | with_reducible apply s_bagSet | with_reducible apply s_bagAug | with_reducible exact addP_int _ _ | with_reducible exact subP_int _ _ | with_reducible exact eqP_int _ _ | with_reducible exact neP_int _ _ | with_reducible exact ltP_int _ _ | with_reducible exact leP_int _ _ | with_reducible exact gtP_int _ _ | with_reducible exact geP_int _ _ | with_reducible exact intP_int _ | with_reducible exact absP_int _ | with_reducible exact modP_pos (by first | assumption | decide) | with_reducible exact mulP_r (by decide) | with_reducible exact mulP_l (by decide) | with_reducible exact mulAP_r (by decide) | with_reducible exact mulAP_l (by decide) | exact rfl)))
    case p0 => exact Int.emod_nonneg _ (by omega)
    case q0 => exact Int.emod_lt_of_pos _ (by omega)
    case c0 => rfl
  · have hp : gtP (.int (s0 : Int)) (.int 0) = some false := by rw [gtP_int, decide_eq_false (by omega)]
    have m1 : ∀ x : Int, mulAP (.int (x % 1000000007)) (.int (x % 1000000007)) = some (.int ((x % 1000000007) * (x % 1000000007))) := fun x => mulAP_l ⟨by omega, by omega⟩
    have m7 : ∀ x : Int, fdivP (.int x) (.int 7) = some (.int (x / 7)) := fun x => fdivP_pos (by decide) (by decide)
    refine ⟨?r1, ?B1, ?h1, ?p1, ?q1, ?c1⟩
    case h1 =>
      refine s_seq (s_ifF (by repeat' first | with_reducible assumption | with_reducible exact r_c | with_reducible exact r_noPart | with_reducible exact r_nil | with_reducible exact s_skip | with_reducible apply r_var | with_reducible apply r_bag | with_reducible apply r_op | with_reducible apply r_cmp | with_reducible apply r_b | with_reducible apply r_isi | with_reducible apply r_isi2 | with_reducible apply r_neg | with_reducible apply r_g | with_reducible apply r_cons | with_reducible apply r_tup | with_reducible apply r_lst | with_reducible apply r_ca | with_reducible apply r_bagIx | with_reducible apply r_sl | with_reducible apply r_part | with_reducible apply r_not | with_reducible apply r_rev | with_reducible apply r_seqT | with_reducible apply s_set | with_reducible apply s_par | with_reducible apply s_ret | with_reducible apply s_bagSet | with_reducible apply s_bagAug | with_reducible exact addP_int _ _ | with_reducible exact subP_int _ _ | with_reducible exact eqP_int _ _ | with_reducible exact neP_int _ _ | with_reducible exact ltP_int _ _ | with_reducible exact leP_int _ _ | with_reducible exact gtP_int _ _ | with_reducible exact geP_int _ _ | with_reducible exact intP_int _ | with_reducible exact absP_int _ | with_reducible exact modP_pos (by first | assumption | decide) | with_reducible exact mulP_r (by decide) | with_reducible exact mulP_l (by decide) | with_reducible exact mulAP_r (by decide) | with_reducible exact mulAP_l (by decide) | exact rfl) s_skip) ?_
      refine s_seq (by repeat' first | with_reducible assumption | with_reducible exact r_c | with_reducible exact r_noPart | with_reducible exact r_nil | with_reducible exact s_skip | with_reducible apply r_var | with_reducible apply r_bag | with_reducible apply r_op | with_reducible apply r_cmp | with_reducible apply r_b | with_reducible apply r_isi | with_reducible apply r_isi2 | with_reducible apply r_neg | with_reducible apply r_g | with_reducible apply r_cons | with_reducible apply r_tup | with_reducible apply r_lst | with_reducible apply r_ca | with_reducible apply r_bagIx | with_reducible apply r_sl | with_reducible apply r_part | with_reducible apply r_not | with_reducible apply r_rev | with_reducible apply r_seqT | with_reducible apply s_set | with_reducible apply s_par | with_reducible apply s_ret | with_reducible apply s_bagSet | with_reducible apply s_bagAug | with_reducible exact addP_int _ _ | with_reducible exact subP_int _ _ | with_reducible exact eqP_int _ _ | with_reducible exact neP_int _ _ | with_reducible exact ltP_int _ _ | with_reducible exact leP_int _ _ | with_reducible exact gtP_int _ _ | with_reducible exact geP_int _ _ | with_reducible exact intP_int _ | with_reducible exact absP_int _ | with_reducible exact modP_pos (by first | assumption | decide) | with_reducible exact mulP_r (by decide) | with_reducible exact mulP_l (by decide) | with_reducible exact mulAP_r (by decide) | with_reducible exact mulAP_l (by decide) | exact rfl) (s_seq (by repeat' first | with_reducible assumption | with_reducible exact m1 _ | with_reducible exact r_c | with_reducible exact r_noPart | with_reducible exact r_nil | with_reducible exact s_skip | with_reducible apply r_var | with_reducible apply r_bag | with_reducible apply r_op | with_reducible apply r_cmp | with_reducible apply r_b | with_reducible apply r_isi | with_reducible apply r_isi2 | with_reducible apply r_neg | with_reducible apply r_g | with_reducible apply r_cons | with_reducible apply r_tup | with_reducible apply r_lst | with_reducible apply r_ca | with_reducible apply r_bagIx | with_reducible apply r_sl | with_reducible apply r_part | with_reducible apply r_not | with_reducible apply r_rev | with_reducible apply r_seqT | with_reducible apply s_set | with_reducible apply s_par | with_reducible apply s_ret | with_reducible apply s_bagSet | with_reducible apply s_bagAug | with_reducible exact addP_int _ _ | with_reducible exact subP_int _ _ | with_reducible exact eqP_int _ _ | with_reducible exact neP_int _ _ | with_reducible exact ltP_int _ _ | with_reducible exact leP_int _ _ | with_reducible exact gtP_int _ _ | with_reducible exact geP_int _ _ | with_reducible exact intP_int _ | with_reducible exact absP_int _ | with_reducible exact modP_pos (by first | assumption | decide) | with_reducible exact mulP_r (by decide) | with_reducible exact mulP_l (by decide) | with_reducible exact mulAP_r (by decide) | with_reducible exact mulAP_l (by decide) | exact rfl) (s_ret (by repeat' first | with_reducible assumption | with_reducible exact m7 _ | with_reducible exact r_c | with_reducible exact r_noPart | with_reducible exact r_nil | with_reducible exact s_skip | with_reducible apply r_var | with_reducible apply r_bag | with_reducible apply r_op | with_reducible apply r_cmp | with_reducible apply r_b | with_reducible apply r_isi | with_reducible apply r_isi2 | with_reducible apply r_neg | with_reducible apply r_g | with_reducible apply r_cons | with_reducible apply r_tup | with_reducible apply r_lst | with_reducible apply r_ca | with_reducible apply r_bagIx | with_reducible apply r_sl | with_reducible apply r_part | with_reducible apply r_not | with_reducible apply r_rev | with_reducible apply r_seqT | with_reducible apply s_set | with_reducible apply s_par | with_reducible apply s_ret | with_reducible apply s_bagSet | with_reducible apply s_bagAug | with_reducible exact addP_int _ _ | with_reducible exact subP_int _ _ | with_reducible exact eqP_int _ _ | with_reducible exact neP_int _ _ | with_reducible exact ltP_int _ _ | with_reducible exact leP_int _ _ | with_reducible exact gtP_int _ _ | with_reducible exact geP_int _ _ | with_reducible exact intP_int _ | with_reducible exact absP_int _ | with_reducible exact modP_pos (by first | assumption | decide) | with_reducible exact mulP_r (by decide) | with_reducible exact mulP_l (by decide) | with_reducible exact mulAP_r (by decide) | with_reducible exact mulAP_l (by decide) | exact rfl)))
    case p1 => exact Int.emod_nonneg _ (by omega)
    case q1 => exact Int.emod_lt_of_pos _ (by omega)
    case c1 => rfl
theorem tkA_ok (n : Int) (s0 s1 s2 : Nat) (cells : List Nat) (hc : cells.length ≤ 63) : ∃ o2 o3 s0' s1' s2', tkA [some .bag, some (.d (.int n)), none, none, none, none, none] ⟨s0, s1, s2, cells⟩ = .nx [some .bag, some (.d (.int n)), o2, o3, none, none, none] ⟨s0', s1', s2', cells⟩ := by
  unfold tkA
  by_cases h0 : s0 = 0
  · subst h0
    obtain ⟨d, c, ea, hcell⟩ := cell_at cells s2 hc
    have nn : ∀ x : Int, 0 ≤ x % 2147483647 := fun x => Int.emod_nonneg _ (by decide)
    have e0 : eqP (.int ((0 : Nat) : Int)) (.int 0) = some true := by rw [eqP_int]; rfl
    have sl : [PyData.int 0].length ≤ sizeLine := by decide
    have p18 := pw18
    by_cases hb : (10 : Int) ^ 18 ≤ (c : Int)
    · have hge : geP (.int (c : Int)) (.int (10 ^ 18)) = some true := by rw [geP_int, decide_eq_true hb]
      have h0c : 0 ≤ (c : Int) := by omega
      refine ⟨?o23, ?o33, ?a3, ?b3, ?c3, ?h3⟩
      case h3 =>
        refine s_ifT (by repeat' first | with_reducible assumption | with_reducible exact r_c | with_reducible exact r_noPart | with_reducible exact r_nil | with_reducible exact s_skip | with_reducible apply r_var | with_reducible apply r_bag | with_reducible apply r_op | with_reducible apply r_cmp | with_reducible apply r_b | with_reducible apply r_isi | with_reducible apply r_isi2 | with_reducible apply r_neg | with_reducible apply r_g | with_reducible apply r_cons | with_reducible apply r_tup | with_reducible apply r_lst | with_reducible apply r_ca | with_reducible apply r_bagIx | with_reducible apply r_sl | with_reducible apply r_part | with_reducible apply r_not | with_reducible apply r_rev | with_reducible apply r_seqT | with_reducible apply s_set | with_reducible apply s_par | with_reducible apply s_ret | with_reducible apply s_bagSet | with_reducible apply s_bagAug | with_reducible exact addP_int _ _ | with_reducible exact subP_int _ _ | with_reducible exact eqP_int _ _ | with_reducible exact neP_int _ _ | with_reducible exact ltP_int _ _ | with_reducible exact leP_int _ _ | with_reducible exact gtP_int _ _ | with_reducible exact geP_int _ _ | with_reducible exact intP_int _ | with_reducible exact absP_int _ | with_reducible exact modP_pos (by first | assumption | decide) | with_reducible exact mulP_r (by decide) | with_reducible exact mulP_l (by decide) | with_reducible exact mulAP_r (by decide) | with_reducible exact mulAP_l (by decide) | exact rfl) (s_seq (by repeat' first | with_reducible assumption | with_reducible exact r_c | with_reducible exact r_noPart | with_reducible exact r_nil | with_reducible exact s_skip | with_reducible apply r_var | with_reducible apply r_bag | with_reducible apply r_op | with_reducible apply r_cmp | with_reducible apply r_b | with_reducible apply r_isi | with_reducible apply r_isi2 | with_reducible apply r_neg | with_reducible apply r_g | with_reducible apply r_cons | with_reducible apply r_tup | with_reducible apply r_lst | with_reducible apply r_ca | with_reducible apply r_bagIx | with_reducible apply r_sl | with_reducible apply r_part | with_reducible apply r_not | with_reducible apply r_rev | with_reducible apply r_seqT | with_reducible apply s_set | with_reducible apply s_par | with_reducible apply s_ret | with_reducible apply s_bagSet | with_reducible apply s_bagAug | with_reducible exact addP_int _ _ | with_reducible exact subP_int _ _ | with_reducible exact eqP_int _ _ | with_reducible exact neP_int _ _ | with_reducible exact ltP_int _ _ | with_reducible exact leP_int _ _ | with_reducible exact gtP_int _ _ | with_reducible exact geP_int _ _ | with_reducible exact intP_int _ | with_reducible exact absP_int _ | with_reducible exact modP_pos (by first | assumption | decide) | with_reducible exact mulP_r (by decide) | with_reducible exact mulP_l (by decide) | with_reducible exact mulAP_r (by decide) | with_reducible exact mulAP_l (by decide) | exact rfl) (s_seq (by repeat' first | with_reducible assumption | with_reducible exact r_c | with_reducible exact r_noPart | with_reducible exact r_nil | with_reducible exact s_skip | with_reducible apply r_var | with_reducible apply r_bag | with_reducible apply r_op | with_reducible apply r_cmp | with_reducible apply r_b | with_reducible apply r_isi | with_reducible apply r_isi2 | with_reducible apply r_neg | with_reducible apply r_g | with_reducible apply r_cons | with_reducible apply r_tup | with_reducible apply r_lst | with_reducible apply r_ca | with_reducible apply r_bagIx | with_reducible apply r_sl | with_reducible apply r_part | with_reducible apply r_not | with_reducible apply r_rev | with_reducible apply r_seqT | with_reducible apply s_set | with_reducible apply s_par | with_reducible apply s_ret | with_reducible apply s_bagSet | with_reducible apply s_bagAug | with_reducible exact addP_int _ _ | with_reducible exact subP_int _ _ | with_reducible exact eqP_int _ _ | with_reducible exact neP_int _ _ | with_reducible exact ltP_int _ _ | with_reducible exact leP_int _ _ | with_reducible exact gtP_int _ _ | with_reducible exact geP_int _ _ | with_reducible exact intP_int _ | with_reducible exact absP_int _ | with_reducible exact modP_pos (by first | assumption | decide) | with_reducible exact mulP_r (by decide) | with_reducible exact mulP_l (by decide) | with_reducible exact mulAP_r (by decide) | with_reducible exact mulAP_l (by decide) | exact rfl) (s_seq (s_ifT (by repeat' first | with_reducible assumption | with_reducible exact r_c | with_reducible exact r_noPart | with_reducible exact r_nil | with_reducible exact s_skip | with_reducible apply r_var | with_reducible apply r_bag | with_reducible apply r_op | with_reducible apply r_cmp | with_reducible apply r_b | with_reducible apply r_isi | with_reducible apply r_isi2 | with_reducible apply r_neg | with_reducible apply r_g | with_reducible apply r_cons | with_reducible apply r_tup | with_reducible apply r_lst | with_reducible apply r_ca | with_reducible apply r_bagIx | with_reducible apply r_sl | with_reducible apply r_part | with_reducible apply r_not | with_reducible apply r_rev | with_reducible apply r_seqT | with_reducible apply s_set | with_reducible apply s_par | with_reducible apply s_ret | with_reducible apply s_bagSet | with_reducible apply s_bagAug | with_reducible exact addP_int _ _ | with_reducible exact subP_int _ _ | with_reducible exact eqP_int _ _ | with_reducible exact neP_int _ _ | with_reducible exact ltP_int _ _ | with_reducible exact leP_int _ _ | with_reducible exact gtP_int _ _ | with_reducible exact geP_int _ _ | with_reducible exact intP_int _ | with_reducible exact absP_int _ | with_reducible exact modP_pos (by first | assumption | decide) | with_reducible exact mulP_r (by decide) | with_reducible exact mulP_l (by decide) | with_reducible exact mulAP_r (by decide) | with_reducible exact mulAP_l (by decide) | exact rfl) (by repeat' first | with_reducible assumption | with_reducible exact r_c | with_reducible exact r_noPart | with_reducible exact r_nil | with_reducible exact s_skip | with_reducible apply r_var | with_reducible apply r_bag | with_reducible apply r_op | with_reducible apply r_cmp | with_reducible apply r_b | with_reducible apply r_isi | with_reducible apply r_isi2 | with_reducible apply r_neg | with_reducible apply r_g | with_reducible apply r_cons | with_reducible apply r_tup | with_reducible apply r_lst | with_reducible apply r_ca | with_reducible apply r_bagIx | with_reducible apply r_sl | with_reducible apply r_part | with_reducible apply r_not | with_reducible apply r_rev | with_reducible apply r_seqT | with_reducible apply s_set | with_reducible apply s_par | with_reducible apply s_ret | with_reducible apply s_bagSet | with_reducible apply s_bagAug | with_reducible exact addP_int _ _ | with_reducible exact subP_int _ _ | with_reducible exact eqP_int _ _ | with_reducible exact neP_int _ _ | with_reducible exact ltP_int _ _ | with_reducible exact leP_int _ _ | with_reducible exact gtP_int _ _ | with_reducible exact geP_int _ _ | with_reducible exact intP_int _ | with_reducible exact absP_int _ | with_reducible exact modP_pos (by first | assumption | decide) | with_reducible exact mulP_r (by decide) | with_reducible exact mulP_l (by decide) | with_reducible exact mulAP_r (by decide) | with_reducible exact mulAP_l (by decide) | exact rfl)) (s_seq (by repeat' first | with_reducible assumption | with_reducible exact r_c | with_reducible exact r_noPart | with_reducible exact r_nil | with_reducible exact s_skip | with_reducible apply r_var | with_reducible apply r_bag | with_reducible apply r_op | with_reducible apply r_cmp | with_reducible apply r_b | with_reducible apply r_isi | with_reducible apply r_isi2 | with_reducible apply r_neg | with_reducible apply r_g | with_reducible apply r_cons | with_reducible apply r_tup | with_reducible apply r_lst | with_reducible apply r_ca | with_reducible apply r_bagIx | with_reducible apply r_sl | with_reducible apply r_part | with_reducible apply r_not | with_reducible apply r_rev | with_reducible apply r_seqT | with_reducible apply s_set | with_reducible apply s_par | with_reducible apply s_ret | with_reducible apply s_bagSet | with_reducible apply s_bagAug | with_reducible exact addP_int _ _ | with_reducible exact subP_int _ _ | with_reducible exact eqP_int _ _ | with_reducible exact neP_int _ _ | with_reducible exact ltP_int _ _ | with_reducible exact leP_int _ _ | with_reducible exact gtP_int _ _ | with_reducible exact geP_int _ _ | with_reducible exact intP_int _ | with_reducible exact absP_int _ | with_reducible exact modP_pos (by first | assumption | decide) | with_reducible exact mulP_r (by decide) | with_reducible exact mulP_l (by decide) | with_reducible exact mulAP_r (by decide) | with_reducible exact mulAP_l (by decide) | exact rfl) (by repeat' first | with_reducible assumption | with_reducible exact nn _ | with_reducible exact r_c | with_reducible exact r_noPart | with_reducible exact r_nil | with_reducible exact s_skip | with_reducible apply r_var | with_reducible apply r_bag | with_reducible apply r_op | with_reducible apply r_cmp | with_reducible apply r_b | with_reducible apply r_isi | with_reducible apply r_isi2 | with_reducible apply r_neg | with_reducible apply r_g | with_reducible apply r_cons | with_reducible apply r_tup | with_reducible apply r_lst | with_reducible apply r_ca | with_reducible apply r_bagIx | with_reducible apply r_sl | with_reducible apply r_part | with_reducible apply r_not | with_reducible apply r_rev | with_reducible apply r_seqT | with_reducible apply s_set | with_reducible apply s_par | with_reducible apply s_ret | with_reducible apply s_bagSet | with_reducible apply s_bagAug | with_reducible exact addP_int _ _ | with_reducible exact subP_int _ _ | with_reducible exact eqP_int _ _ | with_reducible exact neP_int _ _ | with_reducible exact ltP_int _ _ | with_reducible exact leP_int _ _ | with_reducible exact gtP_int _ _ | with_reducible exact geP_int _ _ | with_reducible exact intP_int _ | with_reducible exact absP_int _ | with_reducible exact modP_pos (by first | assumption | decide) | with_reducible exact mulP_r (by decide) | with_reducible exact mulP_l (by decide) | with_reducible exact mulAP_r (by decide) | with_reducible exact mulAP_l (by decide) | exact rfl)))))
    · have hge : geP (.int (c : Int)) (.int (10 ^ 18)) = some false := by rw [geP_int, decide_eq_false hb]
      refine ⟨?o25, ?o35, ?a5, ?b5, ?c5, ?h5⟩
      case h5 =>
        refine s_ifT (by repeat' first | with_reducible assumption | with_reducible exact r_c | with_reducible exact r_noPart | with_reducible exact r_nil | with_reducible exact s_skip | with_reducible apply r_var | with_reducible apply r_bag | with_reducible apply r_op | with_reducible apply r_cmp | with_reducible apply r_b | with_reducible apply r_isi | with_reducible apply r_isi2 | with_reducible apply r_neg | with_reducible apply r_g | with_reducible apply r_cons | with_reducible apply r_tup | with_reducible apply r_lst | with_reducible apply r_ca | with_reducible apply r_bagIx | with_reducible apply r_sl | with_reducible apply r_part | with_reducible apply r_not | with_reducible apply r_rev | with_reducible apply r_seqT | with_reducible apply s_set | with_reducible apply s_par | with_reducible apply s_ret | with_reducible apply s_bagSet | with_reducible apply s_bagAug | with_reducible exact addP_int _ _ | with_reducible exact subP_int _ _ | with_reducible exact eqP_int _ _ | with_reducible exact neP_int _ _ | with_reducible exact ltP_int _ _ | with_reducible exact leP_int _ _ | with_reducible exact gtP_int _ _ | with_reducible exact geP_int _ _ | with_reducible exact intP_int _ | with_reducible exact absP_int _ | with_reducible exact modP_pos (by first | assumption | decide) | with_reducible exact mulP_r (by decide) | with_reducible exact mulP_l (by decide) | with_reducible exact mulAP_r (by decide) | with_reducible exact mulAP_l (by decide) | exact rfl) (s_seq (by repeat' first | with_reducible assumption | with_reducible exact r_c | with_reducible exact r_noPart | with_reducible exact r_nil | with_reducible exact s_skip | with_reducible apply r_var | with_reducible apply r_bag | with_reducible apply r_op | with_reducible apply r_cmp | with_reducible apply r_b | with_reducible apply r_isi | with_reducible apply r_isi2 | with_reducible apply r_neg | with_reducible apply r_g | with_reducible apply r_cons | with_reducible apply r_tup | with_reducible apply r_lst | with_reducible apply r_ca | with_reducible apply r_bagIx | with_reducible apply r_sl | with_reducible apply r_part | with_reducible apply r_not | with_reducible apply r_rev | with_reducible apply r_seqT | with_reducible apply s_set | with_reducible apply s_par | with_reducible apply s_ret | with_reducible apply s_bagSet | with_reducible apply s_bagAug | with_reducible exact addP_int _ _ | with_reducible exact subP_int _ _ | with_reducible exact eqP_int _ _ | with_reducible exact neP_int _ _ | with_reducible exact ltP_int _ _ | with_reducible exact leP_int _ _ | with_reducible exact gtP_int _ _ | with_reducible exact geP_int _ _ | with_reducible exact intP_int _ | with_reducible exact absP_int _ | with_reducible exact modP_pos (by first | assumption | decide) | with_reducible exact mulP_r (by decide) | with_reducible exact mulP_l (by decide) | with_reducible exact mulAP_r (by decide) | with_reducible exact mulAP_l (by decide) | exact rfl) (s_seq (by repeat' first | with_reducible assumption | with_reducible exact r_c | with_reducible exact r_noPart | with_reducible exact r_nil | with_reducible exact s_skip | with_reducible apply r_var | with_reducible apply r_bag | with_reducible apply r_op | with_reducible apply r_cmp | with_reducible apply r_b | with_reducible apply r_isi | with_reducible apply r_isi2 | with_reducible apply r_neg | with_reducible apply r_g | with_reducible apply r_cons | with_reducible apply r_tup | with_reducible apply r_lst | with_reducible apply r_ca | with_reducible apply r_bagIx | with_reducible apply r_sl | with_reducible apply r_part | with_reducible apply r_not | with_reducible apply r_rev | with_reducible apply r_seqT | with_reducible apply s_set | with_reducible apply s_par | with_reducible apply s_ret | with_reducible apply s_bagSet | with_reducible apply s_bagAug | with_reducible exact addP_int _ _ | with_reducible exact subP_int _ _ | with_reducible exact eqP_int _ _ | with_reducible exact neP_int _ _ | with_reducible exact ltP_int _ _ | with_reducible exact leP_int _ _ | with_reducible exact gtP_int _ _ | with_reducible exact geP_int _ _ | with_reducible exact intP_int _ | with_reducible exact absP_int _ | with_reducible exact modP_pos (by first | assumption | decide) | with_reducible exact mulP_r (by decide) | with_reducible exact mulP_l (by decide) | with_reducible exact mulAP_r (by decide) | with_reducible exact mulAP_l (by decide) | exact rfl) (s_seq (s_ifF (by repeat' first | with_reducible assumption | with_reducible exact r_c | with_reducible exact r_noPart | with_reducible exact r_nil | with_reducible exact s_skip | with_reducible apply r_var | with_reducible apply r_bag | with_reducible apply r_op | with_reducible apply r_cmp | with_reducible apply r_b | with_reducible apply r_isi | with_reducible apply r_isi2 | with_reducible apply r_neg | with_reducible apply r_g | with_reducible apply r_cons | with_reducible apply r_tup | with_reducible apply r_lst | with_reducible apply r_ca | with_reducible apply r_bagIx | with_reducible apply r_sl | with_reducible apply r_part | with_reducible apply r_not | with_reducible apply r_rev | with_reducible apply r_seqT | with_reducible apply s_set | with_reducible apply s_par | with_reducible apply s_ret | with_reducible apply s_bagSet | with_reducible apply s_bagAug | with_reducible exact addP_int _ _ | with_reducible exact subP_int _ _ | with_reducible exact eqP_int _ _ | with_reducible exact neP_int _ _ | with_reducible exact ltP_int _ _ | with_reducible exact leP_int _ _ | with_reducible exact gtP_int _ _ | with_reducible exact geP_int _ _ | with_reducible exact intP_int _ | with_reducible exact absP_int _ | with_reducible exact modP_pos (by first | assumption | decide) | with_reducible exact mulP_r (by decide) | with_reducible exact mulP_l (by decide) | with_reducible exact mulAP_r (by decide) | with_reducible exact mulAP_l (by decide) | exact rfl) s_skip) (s_seq (by repeat' first | with_reducible assumption | with_reducible exact r_c | with_reducible exact r_noPart | with_reducible exact r_nil | with_reducible exact s_skip | with_reducible apply r_var | with_reducible apply r_bag | with_reducible apply r_op | with_reducible apply r_cmp | with_reducible apply r_b | with_reducible apply r_isi | with_reducible apply r_isi2 | with_reducible apply r_neg | with_reducible apply r_g | with_reducible apply r_cons | with_reducible apply r_tup | with_reducible apply r_lst | with_reducible apply r_ca | with_reducible apply r_bagIx | with_reducible apply r_sl | with_reducible apply r_part | with_reducible apply r_not | with_reducible apply r_rev | with_reducible apply r_seqT | with_reducible apply s_set | with_reducible apply s_par | with_reducible apply s_ret | with_reducible apply s_bagSet | with_reducible apply s_bagAug | with_reducible exact addP_int _ _ | with_reducible exact subP_int _ _ | with_reducible exact eqP_int _ _ | with_reducible exact neP_int _ _ | with_reducible exact ltP_int _ _ | with_reducible exact leP_int _ _ | with_reducible exact gtP_int _ _ | with_reducible exact geP_int _ _ | with_reducible exact intP_int _ | with_reducible exact absP_int _ | with_reducible exact modP_pos (by first | assumption | decide) | with_reducible exact mulP_r (by decide) | with_reducible exact mulP_l (by decide) | with_reducible exact mulAP_r (by decide) | with_reducible exact mulAP_l (by decide) | exact rfl) (by repeat' first | with_reducible assumption | with_reducible exact nn _ | with_reducible exact r_c | with_reducible exact r_noPart | with_reducible exact r_nil | with_reducible exact s_skip | with_reducible apply r_var | with_reducible apply r_bag | with_reducible apply r_op | with_reducible apply r_cmp | with_reducible apply r_b | with_reducible apply r_isi | with_reducible apply r_isi2 | with_reducible apply r_neg | with_reducible apply r_g | with_reducible apply r_cons | with_reducible apply r_tup | with_reducible apply r_lst | with_reducible apply r_ca | with_reducible apply r_bagIx | with_reducible apply r_sl | with_reducible apply r_part | with_reducible apply r_not | with_reducible apply r_rev | with_reducible apply r_seqT | with_reducible apply s_set | with_reducible apply s_par | with_reducible apply s_ret | with_reducible apply s_bagSet | with_reducible apply s_bagAug | with_reducible exact addP_int _ _ | with_reducible exact subP_int _ _ | with_reducible exact eqP_int _ _ | with_reducible exact neP_int _ _ | with_reducible exact ltP_int _ _ | with_reducible exact leP_int _ _ | with_reducible exact gtP_int _ _ | with_reducible exact geP_int _ _ | with_reducible exact intP_int _ | with_reducible exact absP_int _ | with_reducible exact modP_pos (by first | assumption | decide) | with_reducible exact mulP_r (by decide) | with_reducible exact mulP_l (by decide) | with_reducible exact mulAP_r (by decide) | with_reducible exact mulAP_l (by decide) | exact rfl)))))
  · have hp : eqP (.int (s0 : Int)) (.int 0) = some false := by rw [eqP_int, decide_eq_false (by omega)]
    exact ⟨none, none, s0, s1, s2, s_ifF (by repeat' first | with_reducible assumption | with_reducible exact r_c | with_reducible exact r_noPart | with_reducible exact r_nil | with_reducible exact s_skip | with_reducible apply r_var | with_reducible apply r_bag | with_reducible apply r_op | with_reducible apply r_cmp | with_reducible apply r_b | with_reducible apply r_isi | with_reducible apply r_isi2 | with_reducible apply r_neg | with_reducible apply r_g | with_reducible apply r_cons | with_reducible apply r_tup | with_reducible apply r_lst | with_reducible apply r_ca | with_reducible apply r_bagIx | with_reducible apply r_sl | with_reducible apply r_part | with_reducible apply r_not | with_reducible apply r_rev | with_reducible apply r_seqT | with_reducible apply s_set | with_reducible apply s_par | with_reducible apply s_ret | with_reducible apply s_bagSet | with_reducible apply s_bagAug | with_reducible exact addP_int _ _ | with_reducible exact subP_int _ _ | with_reducible exact eqP_int _ _ | with_reducible exact neP_int _ _ | with_reducible exact ltP_int _ _ | with_reducible exact leP_int _ _ | with_reducible exact gtP_int _ _ | with_reducible exact geP_int _ _ | with_reducible exact intP_int _ | with_reducible exact absP_int _ | with_reducible exact modP_pos (by first | assumption | decide) | with_reducible exact mulP_r (by decide) | with_reducible exact mulP_l (by decide) | with_reducible exact mulAP_r (by decide) | with_reducible exact mulAP_l (by decide) | exact rfl) s_skip⟩
theorem take_ok (B : Bag) (n : Int) (h1 : 1 ≤ n) (h2 : n < 1073741824) (hc : B.cells.length ≤ 63) : ∃ r B', f__law_take [.bag, .d (.int n)] B = .ok (.int r) B' ∧ 0 ≤ r ∧ r < n ∧ B'.cells.length ≤ 63 := by
  obtain ⟨s0, s1, s2, cells⟩ := B
  have hc : cells.length ≤ 63 := hc
  obtain ⟨o2, o3, a0, a1, a2, e1⟩ := tkA_ok n s0 s1 s2 cells hc
  obtain ⟨r, B', e2, p1, p2, p3⟩ := tkB_ok n h1 h2 a0 a1 a2 cells o2 o3
  exact ⟨r, B', s_fn (show mSeq tkA tkB [some .bag, some (.d (.int n)), none, none, none, none, none] ⟨s0, s1, s2, cells⟩ = _ from s_seq e1 e2), p1, p2, by rw [p3]; exact hc⟩
theorem len_le {α : Type} {ds : List α} (h : ds.length ≤ 1000) : ds.length ≤ sizeLine := Nat.le_trans h (by decide)
theorem addP_list {xs ys : List PD} (h : xs.length + ys.length ≤ 1000) : addP (.list xs) (.list ys) = some (.list (xs ++ ys)) := by
  show (if _ then _ else _) = _
  rw [if_pos (Nat.le_trans h (by decide))]
theorem addP_tuple {xs ys : List PD} (h : xs.length + ys.length ≤ 1000) : addP (.tuple xs) (.tuple ys) = some (.tuple (xs ++ ys)) := by
  show (if _ then _ else _) = _
  rw [if_pos (Nat.le_trans h (by decide))]
theorem lenP_list (xs : List PD) : (unD [.d (.list xs)]).bind lenP = some (.int (xs.length : Int)) := rfl
theorem lenP_tuple (xs : List PD) : (unD [.d (.tuple xs)]).bind lenP = some (.int (xs.length : Int)) := rfl
theorem some_ok (ds : List PD) (h0 : 1 ≤ ds.length) (hl : ds.length ≤ 1000) (B : Bag) (hc : B.cells.length ≤ 63) : ∃ d B', f__law_some [.bag, .d (.list ds)] B = .ok d B' ∧ d ∈ ds ∧ B'.cells.length ≤ 63 := by
  obtain ⟨r, B', e, p1, p2, p3⟩ := take_ok B (ds.length : Int) (by omega) (by omega) hc
  have hk : r.toNat < ds.length := by omega
  have er : r = ((r.toNat : Nat) : Int) := by omega
  have ea : ixP (.list ds) (.int r) = some ds[r.toNat] := by
    have q := atI_nat' (List.getElem?_eq_getElem hk)
    rw [← er] at q
    exact q
  refine ⟨ds[r.toNat], B', ?_, List.getElem_mem hk, p3⟩
  unfold f__law_some b__law_some
  exact s_fn (s_ret (r_op (r_var rfl) (r_call (r_cons (r_bag rfl) (r_cons (r_g (r_ca (r_cons (r_g (r_var rfl)) r_nil) rfl)) r_nil)) rfl e) ea))
end DL
set_option Elab.async false
set_option linter.all false
set_option maxRecDepth 100000
set_option maxHeartbeats 4000000
/-! QC: data without truths and dicts: ==, in, index are those of the data. -/
namespace DL
open PySem L2
def clP : Nat → PD → Bool
  | 0, .none => true
  | 0, .int _ => true
  | 0, .str x => PyData.canLay0 (.str x)
  | 0, _ => false
  | _ + 1, .none => true
  | _ + 1, .int _ => true
  | _ + 1, .str x => PyData.canLay0 (.str x)
  | n + 1, .list xs => xs.all (clP n)
  | n + 1, .tuple xs => xs.all (clP n)
  | _ + 1, _ => false
theorem clP_lay : ∀ (n : Nat) (d : PD), clP n d = true → PyData.canLay0 d = true ∧ PyData.depth d ≤ n
  | 0, d, h => by
    cases d with
    | none => exact ⟨rfl, by simp [PyData.depth]⟩
    | int i => exact ⟨rfl, by simp [PyData.depth]⟩
    | str x => exact ⟨h, by simp [PyData.depth]⟩
    | bool b => cases h
    | list x => cases h
    | tuple x => cases h
    | dict x => cases h
  | n + 1, d, h => by
    have all : ∀ xs : List PD, xs.all (clP n) = true → PyData.canLayAll0 xs = true ∧ PyData.depthAll xs ≤ n := by
      intro xs
      induction xs with
      | nil => intro _; exact ⟨rfl, by simp [PyData.depthAll]⟩
      | cons x r ih =>
        intro hx
        rw [List.all_cons, Bool.and_eq_true] at hx
        have h1 := clP_lay n x hx.1
        have h2 := ih hx.2
        exact ⟨by simp only [PyData.canLayAll0, h1.1, h2.1]; rfl, by simp only [PyData.depthAll]; omega⟩
    cases d with
    | none => exact ⟨rfl, by simp [PyData.depth]⟩
    | int i => exact ⟨rfl, by simp [PyData.depth]⟩
    | str x => exact ⟨h, by simp [PyData.depth]⟩
    | bool b => cases h
    | list xs => have := all xs h; exact ⟨by simp only [PyData.canLay0]; exact this.1, by simp only [PyData.depth]; omega⟩
    | tuple xs => have := all xs h; exact ⟨by simp only [PyData.canLay0]; exact this.1, by simp only [PyData.depth]; omega⟩
    | dict x => cases h
theorem clP_shaped {n : Nat} {d : PD} (h : clP n d = true) (hn : n ≤ 64) : SeqAt.shaped d = true := by
  have := clP_lay n d h
  show (PyData.canLay0 d && decide (PyData.depth d ≤ 64)) = true
  rw [Bool.and_eq_true]
  exact ⟨this.1, decide_eq_true (by omega)⟩
theorem clP_eqv : ∀ (n m : Nat) (d e : PD), clP n d = true → clP m e = true → (PyData.eqv d e = true ↔ d = e)
  | 0, m, d, e, h, k => by
    have at0 : clP 0 d = true := h
    cases d <;> (first | (exfalso; revert h; simp [clP]; done) | skip) <;> cases e <;> (first | (exfalso; revert k; cases m <;> simp [clP]; done) | simp [PyData.eqv])
  | n + 1, m, d, e, h, k => by
    have all : ∀ (xs ys : List PD) (m : Nat), xs.all (clP n) = true → ys.all (clP m) = true → (PyData.eqvAll xs ys = true ↔ xs = ys) := by
      intro xs
      induction xs with
      | nil => intro ys m _ _; cases ys <;> simp [PyData.eqvAll]
      | cons x r ih =>
        intro ys m hx hy
        cases ys with
        | nil => simp [PyData.eqvAll]
        | cons y q =>
          rw [List.all_cons, Bool.and_eq_true] at hx hy
          simp only [PyData.eqvAll, Bool.and_eq_true, clP_eqv n m x y hx.1 hy.1, ih q m hx.2 hy.2, List.cons.injEq]
    cases d with
    | list xs =>
      cases e with
      | list ys =>
        cases m with
        | zero => cases k
        | succ m => simp only [PyData.eqv, all xs ys m h k, PyData.list.injEq]
      | _ => first | (simp [PyData.eqv]; done) | (exfalso; revert k; cases m <;> simp [clP])
    | tuple xs =>
      cases e with
      | tuple ys =>
        cases m with
        | zero => cases k
        | succ m => simp only [PyData.eqv, all xs ys m h k, PyData.tuple.injEq]
      | _ => first | (simp [PyData.eqv]; done) | (exfalso; revert k; cases m <;> simp [clP])
    | bool b => cases h
    | dict x => cases h
    | _ => cases e <;> (first | (exfalso; revert k; cases m <;> simp [clP]; done) | simp [PyData.eqv])
open Classical in
noncomputable instance decPD : DecidableEq PD := fun _ _ => Classical.propDecidable _
theorem eqP_cl {n m : Nat} {d e : PD} (h : clP n d = true) (k : clP m e = true) (hn : n ≤ 64 := by decide) (hm : m ≤ 64 := by decide) : eqP d e = some (decide (d = e)) := by
  unfold eqP
  rw [if_pos ⟨clP_shaped h hn, clP_shaped k hm⟩]
  have := clP_eqv n m d e h k
  cases q : PyData.eqv d e with
  | true => rw [decide_eq_true (this.mp q)]
  | false => rw [decide_eq_false fun z => by rw [this.mpr z] at q; cases q]
theorem neP_cl {n m : Nat} {d e : PD} (h : clP n d = true) (k : clP m e = true) (hn : n ≤ 64 := by decide) (hm : m ≤ 64 := by decide) : neP d e = some (!decide (d = e)) := by
  unfold neP
  rw [if_pos ⟨clP_shaped h hn, clP_shaped k hm⟩]
  have := clP_eqv n m d e h k
  cases q : PyData.eqv d e with
  | true => rw [decide_eq_true (this.mp q)]
  | false => rw [decide_eq_false fun z => by rw [this.mpr z] at q; cases q]
theorem any_cl {n m : Nat} {d : PD} {ds : List PD} (h : clP n d = true) (k : ds.all (clP m) = true) : (ds.any fun z => PyData.eqv z d) = decide (d ∈ ds) := by
  induction ds with
  | nil => rfl
  | cons x r ih =>
    rw [List.all_cons, Bool.and_eq_true] at k
    rw [List.any_cons, ih k.2]
    have := clP_eqv m n x d k.1 h
    by_cases c : x = d
    · have hm : d ∈ x :: r := by rw [c]; exact List.mem_cons_self
      rw [this.mpr c, Bool.true_or, decide_eq_true hm]
    · have e : PyData.eqv x d = false := by cases q : PyData.eqv x d with | false => rfl | true => exact absurd (this.mp q) c
      rw [e, Bool.false_or]
      have : (d ∈ x :: r) ↔ d ∈ r := by rw [List.mem_cons]; exact ⟨fun z => z.elim (fun z => absurd z.symm c) id, .inr⟩
      simp only [this]
theorem inAP_list {n m : Nat} {d : PD} {ds : List PD} (h : clP n d = true) (k : ds.all (clP m) = true) (hn : n ≤ 64 := by decide) (hm : m + 1 ≤ 64 := by decide) : inAP d (.list ds) = some (decide (d ∈ ds)) := by
  have e := any_cl h k
  have e1 : inDP d (.list ds) = some (decide (d ∈ ds)) := by
    show (if _ then _ else _) = _
    rw [if_pos ⟨clP_shaped h hn, clP_shaped (n := m + 1) (d := .list ds) k hm⟩, e]
  unfold inAP gOr
  have e2 : inP d (.list ds) = if flatP d = true ∧ ds.all flatP = true then some (ds.any fun e => PyData.eqv e d) else none := by cases d <;> rfl
  rw [e2]
  by_cases c : flatP d = true ∧ ds.all flatP = true
  · rw [if_pos c, e]
  · rw [if_neg c]; exact e1
theorem inAP_tup {n m : Nat} {d : PD} {ds : List PD} (h : clP n d = true) (k : ds.all (clP m) = true) (hn : n ≤ 64 := by decide) (hm : m + 1 ≤ 64 := by decide) : inAP d (.tuple ds) = some (decide (d ∈ ds)) := by
  have e := any_cl h k
  have e1 : inDP d (.tuple ds) = some (decide (d ∈ ds)) := by
    show (if _ then _ else _) = _
    rw [if_pos ⟨clP_shaped h hn, clP_shaped (n := m + 1) (d := .tuple ds) k hm⟩, e]
  unfold inAP gOr
  have e2 : inP d (.tuple ds) = if flatP d = true ∧ ds.all flatP = true then some (ds.any fun e => PyData.eqv e d) else none := by cases d <;> rfl
  rw [e2]
  by_cases c : flatP d = true ∧ ds.all flatP = true
  · rw [if_pos c, e]
  · rw [if_neg c]; exact e1
theorem ninAP_of {d e : PD} {b : Bool} (h : inAP d e = some b) : ninAP d e = some (!b) := by
  unfold inAP gOr at h
  unfold ninAP gOr ninP ninDP
  cases q : inP d e with
  | some k => rw [q] at h; cases h; rfl
  | none =>
    rw [q] at h
    have h : inDP d e = some b := h
    show (match (none : Option Bool) with | some z => some z | none => (inDP d e).map (!·)) = _
    rw [h]; rfl
theorem clP_okA : ∀ (n : Nat) (d : PD), n ≤ 64 → clP n d = true → okA d = true
  | 0, d, hn, h => by
    cases d with
    | str x => exact clP_shaped (n := 0) h (by decide)
    | none => rfl
    | int i => rfl
    | bool b => rfl
    | list x => cases h
    | tuple x => cases h
    | dict x => cases h
  | n + 1, d, hn, h => by
    have all : ∀ xs : List PD, xs.all (clP n) = true → okAs xs = true := by
      intro xs
      induction xs with
      | nil => intro _; rfl
      | cons x r ih =>
        intro hx
        rw [List.all_cons, Bool.and_eq_true] at hx
        simp only [okAs, clP_okA n x (by omega) hx.1, ih hx.2]; rfl
    cases d with
    | str x => exact clP_shaped (n := n + 1) h hn
    | none => rfl
    | int i => rfl
    | bool b => rfl
    | list x => exact all x h
    | tuple x => exact all x h
    | dict x => cases h
end DL
set_option Elab.async false
set_option linter.all false
set_option maxRecDepth 100000
set_option maxHeartbeats 4000000
/-! QD: machines: drawn ones are good. -/
namespace DL
open PySem L2
theorem cut_lo {α : Type} (xs : List α) (k : Nat) : cutP xs none (some (k : Int)) = xs.take k := by
  unfold cutP
  rw [HT.sIx_none, HT.sIx_nat, List.drop_zero, Nat.sub_zero, ← List.take_eq_take_min]
theorem cut_hi {α : Type} (xs : List α) (k : Nat) : cutP xs (some (k : Int)) none = xs.drop k := by
  unfold cutP
  rw [HT.sIx_none, HT.sIx_nat]
  rcases Nat.le_total k xs.length with h | h
  · rw [Nat.min_eq_left h, List.take_of_length_le (by simp)]
  · rw [Nat.min_eq_right h, Nat.sub_self, List.take_zero, List.drop_eq_nil_of_le h]
theorem eraseIdx_map' {α β : Type} (f : α → β) : ∀ (l : List α) (k : Nat), (l.map f).eraseIdx k = (l.eraseIdx k).map f
  | [], k => by simp
  | a :: l, 0 => by simp
  | a :: l, k + 1 => by simp [eraseIdx_map' f l k]
theorem eraseIdx_perm' {α : Type} : ∀ (l : List α) (k : Nat) (y : α), l[k]? = some y → (y :: l.eraseIdx k).Perm l
  | [], k, y, h => by simp at h
  | a :: l, 0, y, h => by simp at h; subst h; simp
  | a :: l, k + 1, y, h => by
    have h : l[k]? = some y := by simpa using h
    simp only [List.eraseIdx_cons_succ]
    exact (List.Perm.swap a y _).trans ((eraseIdx_perm' l k y h).cons a)
def ABC : List Str := ["a", "b", "c"]
def okS (x : Str) : Prop := PyData.canLay0 (.str x) = true
theorem okS_abc : ∀ x ∈ ABC, okS x := by
  intro x h
  unfold ABC at h
  simp only [List.mem_cons, List.not_mem_nil, or_false] at h
  rcases h with h | h | h <;> subst h <;> (unfold okS; decide +kernel)
theorem all_strs {n : Nat} {xs : List Str} (h : ∀ x ∈ xs, okS x) : (xs.map PyData.str).all (clP n) = true := by
  rw [List.all_eq_true]
  intro d hd
  obtain ⟨x, hx, rfl⟩ := List.mem_map.mp hd
  have := h x hx
  cases n <;> exact this
/-- the bag's promise -/
abbrev JB (B : Bag) : Prop := B.cells.length ≤ 63
theorem neP_nil {xs : List Str} (h : ∀ x ∈ xs, okS x) : neP (.list (xs.map PyData.str)) (.list []) = some (!decide (xs = [])) := by
  rw [neP_cl (n := 1) (m := 1) (d := .list (xs.map PyData.str)) (e := .list []) (all_strs (n := 0) h) rfl]
  cases xs <;> simp
abbrev mxC : EnvM → Bag → Res Bool := mLendT 2 (mCmp neP (mVar 2) (mLst mNil))
abbrev mxB : EnvM → Bag → SRes := mAppPop 3 2 (mCall 2 f__law_take (mCons (mBag 0) (mCons (mG (mLenOwn 2)) mNil)))
theorem mxC_ok (o1 o3 : Option SV) (rest : List Str) (h : ∀ x ∈ rest, okS x) (B : Bag) : mxC [some .bag, o1, some (.own (rest.map PyData.str)), o3] B = .ok (!decide (rest = [])) B := by
  have e : mCmp neP (mVar 2) (mLst mNil) [some .bag, o1, some (.d (.list (rest.map PyData.str))), o3] B = .ok (!decide (rest = [])) B :=
    r_cmp (r_var rfl) (r_lst r_nil rfl (by decide)) (neP_nil h)
  show (match mCmp neP (mVar 2) (mLst mNil) [some .bag, o1, some (.d (.list (rest.map PyData.str))), o3] B with | .ok d B1 => Res.ok d B1 | _ => .bad) = _
  rw [e]
theorem mx_loop : ∀ (n : Nat) (o1 : Option SV) (rest made : List Str) (B : Bag), rest.length = n → n + made.length ≤ 1000 → (∀ x ∈ rest, okS x) → JB B → ∃ (out : List Str) (B' : Bag), mWhile mxC mxB [some .bag, o1, some (.own (rest.map PyData.str)), some (.own (made.map PyData.str))] B = .nx [some .bag, o1, some (.own []), some (.own (out.map PyData.str))] B' ∧ out.Perm (made ++ rest) ∧ JB B'
  | 0, o1, rest, made, B, hn, hl, ho, hc => by
    have e : rest = [] := List.length_eq_zero_iff.mp hn
    subst e
    exact ⟨made, B, wh_end (mxC_ok o1 _ [] ho B), by simp, hc⟩
  | n + 1, o1, rest, made, B, hn, hl, ho, hc => by
    have hne : rest ≠ [] := by intro z; rw [z] at hn; simp at hn
    obtain ⟨r, B1, e1, p1, p2, c1⟩ := take_ok B (rest.length : Int) (by omega) (by omega) hc
    have hk : r.toNat < rest.length := by omega
    have hg : rest[r.toNat]? = some rest[r.toNat] := List.getElem?_eq_getElem hk
    obtain ⟨out, B', e2, q2, c2⟩ := mx_loop n o1 (rest.eraseIdx r.toNat) (made ++ [rest[r.toNat]]) B1 (by rw [List.length_eraseIdx_of_lt hk]; omega) (by simp; omega) (fun x hx => ho x (List.mem_of_mem_eraseIdx hx)) c1
    have e0 : mxC [some .bag, o1, some (.own (rest.map PyData.str)), some (.own (made.map PyData.str))] B = .ok true B := by rw [mxC_ok o1 _ rest ho B, decide_eq_false hne]; rfl
    refine ⟨out, B', wh_turn e0 ?_ e2, q2.trans ?_, c2⟩
    · have e3 : mCall 2 f__law_take (mCons (mBag 0) (mCons (mG (mLenOwn 2)) mNil)) [some .bag, o1, some (.own (rest.map PyData.str)), some (.own (made.map PyData.str))] B = .ok (.int r) B1 := by
        refine r_call (r_cons (r_bag rfl) (r_cons (r_g rfl) r_nil)) rfl ?_
        rw [List.length_map]
        exact e1
      have e4 : popP (rest.map PyData.str) (.int r) = some (.str rest[r.toNat], (rest.eraseIdx r.toNat).map PyData.str) := by
        unfold popP
        have hr : r < 2 ^ 63 := by omega
        simp only [if_pos (And.intro p1 hr), List.getElem?_map, hg, Option.map_some, eraseIdx_map']
      have e5 : (made.map PyData.str).length < sizeLine := by rw [List.length_map, sizeLine_eq]; omega
      show ((mCall 2 f__law_take (mCons (mBag 0) (mCons (mG (mLenOwn 2)) mNil)) [some .bag, o1, some (.own (rest.map PyData.str)), some (.own (made.map PyData.str))] B).s [some .bag, o1, some (.own (rest.map PyData.str)), some (.own (made.map PyData.str))] fun d B1 => (match popP (rest.map PyData.str) d with
        | some (y, ys') => if (made.map PyData.str).length < sizeLine then SRes.nx [some .bag, o1, some (.own ys'), some (.own (made.map PyData.str ++ [y]))] B1 else .bad
        | none => .bad)) = _
      rw [e3]
      simp only [Res.s, e4, if_pos e5]
      simp
    · rw [List.append_assoc]
      exact (List.perm_append_left_iff made).mpr (eraseIdx_perm' rest _ _ hg)
theorem mixed_ok (xs : List Str) (h : ∀ x ∈ xs, okS x) (hl : xs.length ≤ 900) (B : Bag) (hc : JB B) : ∃ (out : List Str) (B' : Bag), f__law_mixed [.bag, .d (.list (xs.map PyData.str))] B = .ok (.list (out.map PyData.str)) B' ∧ out.Perm xs ∧ JB B' := by
  obtain ⟨out, B', e, p, c⟩ := mx_loop xs.length (some (.d (.list (xs.map PyData.str)))) xs [] B rfl (by simp; omega) h hc
  refine ⟨out, B', ?_, by simpa using p, c⟩
  unfold f__law_mixed b__law_mixed
  exact s_fn (s_seq (B1 := B) (e1 := [some .bag, some (.d (.list (xs.map PyData.str))), some (.own (xs.map PyData.str)), some (.own [])]) rfl (s_seq e (s_ret rfl)))
/-! ### machines -/
abbrev Mach := List (Str × List (Str × Str))
def eMv (q : Str × Str) : PD := .tuple [.str q.1, .str q.2]
def eSt (p : Str × List (Str × Str)) : PD := .tuple [.str p.1, .tuple (p.2.map eMv)]
def eM (m : Mach) : PD := .tuple (m.map eSt)
structure MvOk (names : List Str) (ms : List (Str × Str)) : Prop where
  len : ms.length ≤ 3
  nd : (ms.map (·.1)).Nodup
  mem : ∀ q ∈ ms, q.1 ∈ ABC ∧ q.2 ∈ names
structure Good (m : Mach) : Prop where
  len1 : 1 ≤ m.length
  len3 : m.length ≤ 3
  nd : (m.map (·.1)).Nodup
  str : ∀ x ∈ m.map (·.1), okS x
  mv : ∀ p ∈ m, MvOk (m.map (·.1)) p.2
theorem sortS_perm (xs : List Str) : (sortS xs).Perm xs := List.mergeSort_perm xs _
theorem unS_strs : ∀ xs : List Str, unS (xs.map PyData.str) = some xs
  | [] => rfl
  | x :: r => by simp only [List.map_cons, unS, unS_strs r]; rfl
theorem sortedAP_str (xs : List Str) (h : xs.length < 64) : sortedAP [.list (xs.map PyData.str)] = some (.list ((sortS xs).map PyData.str)) := by
  unfold sortedAP
  cases xs with
  | nil =>
    have e : sortedP [.list (([] : List Str).map PyData.str)] = some (.list []) := by
      show some (PyData.list ((sortI []).map PyData.int)) = _
      have e3 : sortI [] = [] := List.Perm.eq_nil (List.mergeSort_perm [] _)
      rw [e3]; rfl
    rw [e]
    have e2 : sortS [] = [] := List.Perm.eq_nil (sortS_perm [])
    rw [e2]; rfl
  | cons x r =>
    have e : sortedP [.list ((x :: r).map PyData.str)] = none := rfl
    rw [e]
    show (match unS ((x :: r).map PyData.str) with | some xs => if xs.length < 64 then some (PyData.list ((sortS xs).map PyData.str)) else none | none => none) = _
    rw [unS_strs]
    show (if (x :: r).length < 64 then _ else _) = _
    rw [if_pos h]
theorem some_strs (xs : List Str) (h0 : 1 ≤ xs.length) (hl : xs.length ≤ 1000) (B : Bag) (hc : JB B) : ∃ (x : Str) (B' : Bag), f__law_some [.bag, .d (.list (xs.map PyData.str))] B = .ok (.str x) B' ∧ x ∈ xs ∧ JB B' := by
  obtain ⟨d, B', e, m, c⟩ := some_ok (xs.map PyData.str) (by simpa using h0) (by simpa using hl) B hc
  obtain ⟨x, hx, rfl⟩ := List.mem_map.mp m
  exact ⟨x, B', e, hx, c⟩
/-- the inner comprehension -/
abbrev mcI : EnvM → Bag → Res PD := mTup (mCons (mG (mVar 6)) (mCons (mG (mCall 2 f__law_some (mCons (mBag 0) (mCons (mG (mVar 2)) mNil)))) mNil))
theorem mcI_go (names : List Str) (h0 : 1 ≤ names.length) (hl : names.length ≤ 1000) (o1 o3 o4 o5 : Option SV) : ∀ (ls : List Str) (B : Bag), JB B → ∃ (ms : List (Str × Str)) (B' : Bag), mLcGo (mgName 6) mYes mcI [some .bag, o1, some (.d (.list (names.map PyData.str))), o3, o4, o5, none] (ls.map PyData.str) B = .ok (ms.map eMv) B' ∧ JB B' ∧ ms.map (·.1) = ls ∧ ∀ q ∈ ms, q.2 ∈ names
  | [], B, hc => ⟨[], B, rfl, hc, rfl, fun q hq => by cases hq⟩
  | l :: ls, B, hc => by
    obtain ⟨x, B1, e1, hx, c1⟩ := some_strs names h0 hl B hc
    obtain ⟨ms, B2, e2, c2, m2, q2⟩ := mcI_go names h0 hl o1 o3 o4 o5 ls B1 c1
    refine ⟨(l, x) :: ms, B2, ?_, c2, by simp [m2], fun q hq => ?_⟩
    · have e3 : mcI [some .bag, o1, some (.d (.list (names.map PyData.str))), o3, o4, o5, some (.d (.str l))] B = .ok (eMv (l, x)) B1 :=
        r_tup (r_cons (r_g (r_var rfl)) (r_cons (r_g (r_call (r_cons (r_bag rfl) (r_cons (r_g (r_var rfl)) r_nil)) rfl e1)) r_nil)) rfl (show 2 ≤ sizeLine by decide)
      show (match mYes [some .bag, o1, some (.d (.list (names.map PyData.str))), o3, o4, o5, some (.d (.str l))] B with
        | .ok true B1 => (match mcI [some .bag, o1, some (.d (.list (names.map PyData.str))), o3, o4, o5, some (.d (.str l))] B1 with
          | .ok y B2 => (match mLcGo (mgName 6) mYes mcI [some .bag, o1, some (.d (.list (names.map PyData.str))), o3, o4, o5, none] (ls.map PyData.str) B2 with
            | .ok ys B3 => Res.ok (y :: ys) B3
            | _ => .bad)
          | _ => .bad)
        | .ok false B1 => mLcGo (mgName 6) mYes mcI [some .bag, o1, some (.d (.list (names.map PyData.str))), o3, o4, o5, none] (ls.map PyData.str) B1
        | _ => .bad) = _
      simp only [mYes, e3, e2]
      rfl
    · rcases List.mem_cons.mp hq with rfl | hq
      · exact hx
      · exact q2 q hq
noncomputable abbrev mcB : EnvM → Bag → SRes := (mSeq (mSet (mgName 5) (mSl (mCall 2 f__law_mixed (mCons (mBag 0) (mCons (mG (mLst (mCons (mG (mC (.str "a"))) (mCons (mG (mC (.str "b"))) (mCons (mG (mC (.str "c"))) mNil))))) mNil))) mNoPart (mPart (mCall 2 f__law_some (mCons (mBag 0) (mCons (mG (mLst (mCons (mG (mC (.int 0))) (mCons (mG (mC (.int 1))) (mCons (mG (mC (.int 1))) (mCons (mG (mC (.int 2))) (mCons (mG (mC (.int 2))) (mCons (mG (mC (.int 3))) mNil)))))))) mNil))))))
  (mApp 3 (mTup (mCons (mG (mVar 4)) (mCons (mG (mCa tupleP (mCons (mG (mLc [6] (mSeqOfS (mCa sortedAP (mCons (mG (mVar 5)) mNil))) (mgName 6) mYes (mTup (mCons (mG (mVar 6)) (mCons (mG (mCall 2 f__law_some (mCons (mBag 0) (mCons (mG (mVar 2)) mNil)))) mNil))))) mNil))) mNil)))))
theorem s_app {i : Nat} {m : EnvM → Bag → Res PD} {env : EnvM} {B B1 : Bag} {xs : List PD} {d : PD} (h : m env B = .ok d B1) (he : env[i]? = some (some (.own xs))) (hl : xs.length < sizeLine) : mApp i m env B = .nx (env.set i (some (.own (xs ++ [d])))) B1 := by
  unfold mApp; rw [he]; simp only [h, Res.s, hl, if_true]
theorem len_lt {α : Type} {ds : List α} (h : ds.length ≤ 1000) : ds.length < sizeLine := Nat.lt_of_le_of_lt h (by decide)
theorem mcB_ok (names : List Str) (h0 : 1 ≤ names.length) (hl : names.length ≤ 3) (ms : Mach) (hm : ms.length ≤ 3) (n : Str) (o1 o5 : Option SV) (B : Bag) (hc : JB B) : ∃ (mv : List (Str × Str)) (o5' : Option SV) (B' : Bag),
    mcB [some .bag, o1, some (.d (.list (names.map PyData.str))), some (.own (ms.map eSt)), some (.d (.str n)), o5, none] B = .nx [some .bag, o1, some (.d (.list (names.map PyData.str))), some (.own ((ms ++ [(n, mv)]).map eSt)), some (.d (.str n)), o5', none] B' ∧ MvOk names mv ∧ JB B' := by
  obtain ⟨out, B1, e1, p1, c1⟩ := mixed_ok ABC okS_abc (by decide) B hc
  obtain ⟨d, B2, e2, m2, c2⟩ := some_ok [.int 0, .int 1, .int 1, .int 2, .int 2, .int 3] (by decide) (by decide) B1 c1
  have hd : ∃ k : Nat, k ≤ 3 ∧ d = .int (k : Int) := by
    simp only [List.mem_cons, List.not_mem_nil, or_false] at m2
    rcases m2 with h | h | h | h | h | h
    · exact ⟨0, by decide, h⟩
    · exact ⟨1, by decide, h⟩
    · exact ⟨1, by decide, h⟩
    · exact ⟨2, by decide, h⟩
    · exact ⟨2, by decide, h⟩
    · exact ⟨3, by decide, h⟩
  obtain ⟨k, hk, rfl⟩ := hd
  have lo : out.length = 3 := p1.length_eq
  have lt : (out.take k).length ≤ 3 := by rw [List.length_take]; omega
  have hs := sortS_perm (out.take k)
  obtain ⟨mv, B3, e3, c3, f3, t3⟩ := mcI_go names h0 (by omega) o1 (some (.own (ms.map eSt))) (some (.d (.str n))) (some (.d (.list ((out.take k).map PyData.str)))) (sortS (out.take k)) B2 c2
  have len3 : mv.length ≤ 3 := by
    have : (mv.map (·.1)).length = (sortS (out.take k)).length := by rw [f3]
    rw [List.length_map, hs.length_eq] at this
    omega
  refine ⟨mv, some (.d (.list ((out.take k).map PyData.str))), B3, ?_, ⟨len3, ?_, fun q hq => ⟨?_, t3 q hq⟩⟩, c3⟩
  · refine s_seq (B1 := B2) (e1 := [some .bag, o1, some (.d (.list (names.map PyData.str))), some (.own (ms.map eSt)), some (.d (.str n)), some (.d (.list ((out.take k).map PyData.str))), none]) ?_ ?_
    · refine s_set (x := .list ((out.take k).map PyData.str)) (B1 := B2) ?_ rfl
      refine r_sl (x := .list (out.map PyData.str)) (B1 := B1) ?_ r_noPart (r_part (i := (k : Int)) ?_) ?_
      · exact r_call (r_cons (r_bag rfl) (r_cons (r_g (r_lst (r_cons (r_g r_c) (r_cons (r_g r_c) (r_cons (r_g r_c) r_nil))) rfl (by decide))) r_nil)) rfl e1
      · exact r_call (r_cons (r_bag rfl) (r_cons (r_g (r_lst (r_cons (r_g r_c) (r_cons (r_g r_c) (r_cons (r_g r_c) (r_cons (r_g r_c) (r_cons (r_g r_c) (r_cons (r_g r_c) r_nil)))))) rfl (by decide))) r_nil)) rfl e2
      · show some (PyData.list (cutP (out.map PyData.str) none (some (k : Int)))) = _
        rw [cut_lo, List.map_take]
    · have e4 : mLc [6] (mSeqOfS (mCa sortedAP (mCons (mG (mVar 5)) mNil))) (mgName 6) mYes mcI [some .bag, o1, some (.d (.list (names.map PyData.str))), some (.own (ms.map eSt)), some (.d (.str n)), some (.d (.list ((out.take k).map PyData.str))), none] B2 = .ok (.list (mv.map eMv)) B3 := by
        refine r_lc (ds := (sortS (out.take k)).map PyData.str) (r_seqL (r_ca (r_cons (r_g (r_var rfl)) r_nil) (sortedAP_str _ (by omega)))) (len_le (by rw [List.length_map, hs.length_eq]; omega)) e3
      have e5 := s_app (i := 3) (m := mTup (mCons (mG (mVar 4)) (mCons (mG (mCa tupleP (mCons (mG (mLc [6] (mSeqOfS (mCa sortedAP (mCons (mG (mVar 5)) mNil))) (mgName 6) mYes mcI)) mNil))) mNil))) (B := B2) (B1 := B3) (d := eSt (n, mv)) (xs := ms.map eSt) (env := [some .bag, o1, some (.d (.list (names.map PyData.str))), some (.own (ms.map eSt)), some (.d (.str n)), some (.d (.list ((out.take k).map PyData.str))), none])
        (r_tup (r_cons (r_g (r_var rfl)) (r_cons (r_g (r_ca (g := tupleP) (r_cons (r_g e4) r_nil) rfl)) r_nil)) rfl (show 2 ≤ sizeLine by decide)) rfl (len_lt (by rw [List.length_map]; omega))
      rw [List.map_append]
      exact e5
  · rw [f3]
    refine (hs.nodup_iff).mpr ?_
    exact ((p1.nodup_iff).mpr (by decide)).sublist (List.take_sublist k out)
  · have : q.1 ∈ mv.map (·.1) := List.mem_map_of_mem hq
    rw [f3] at this
    exact p1.mem_iff.mp (List.mem_of_mem_take (hs.mem_iff.mp this))
theorem mc_loop (names : List Str) (h0 : 1 ≤ names.length) (hl : names.length ≤ 3) (o1 : Option SV) : ∀ (rem : List Str) (ms : Mach) (o4 o5 : Option SV) (B : Bag), rem.length + ms.length ≤ 3 → JB B → ∃ (ms' : Mach) (o4' o5' : Option SV) (B' : Bag),
    mLoop (mgName 4) mcB (rem.map PyData.str) [some .bag, o1, some (.d (.list (names.map PyData.str))), some (.own (ms.map eSt)), o4, o5, none] B = .nx [some .bag, o1, some (.d (.list (names.map PyData.str))), some (.own ((ms ++ ms').map eSt)), o4', o5', none] B' ∧ ms'.map (·.1) = rem ∧ (∀ p ∈ ms', MvOk names p.2) ∧ JB B'
  | [], ms, o4, o5, B, _, hc => ⟨[], o4, o5, B, by rw [List.append_nil]; rfl, rfl, (fun p hp => by cases hp), hc⟩
  | n :: rem, ms, o4, o5, B, hb, hc => by
    rw [List.length_cons] at hb
    obtain ⟨mv, o5a, B1, e1, k1, c1⟩ := mcB_ok names h0 hl ms (by omega) n o1 o5 B hc
    obtain ⟨ms', o4', o5', B2, e2, f2, k2, c2⟩ := mc_loop names h0 hl o1 rem (ms ++ [(n, mv)]) (some (.d (.str n))) o5a B1 (by simp; omega) c1
    refine ⟨(n, mv) :: ms', o4', o5', B2, ?_, by simp [f2], fun p hp => ?_, c2⟩
    · have e3 : ms ++ (n, mv) :: ms' = ms ++ [(n, mv)] ++ ms' := by simp
      rw [e3, ← e2]
      show (match mcB [some .bag, o1, some (.d (.list (names.map PyData.str))), some (.own (ms.map eSt)), some (.d (.str n)), o5, none] B with
        | .nx env2 B2 => mLoop (mgName 4) mcB (rem.map PyData.str) env2 B2
        | .ct env2 B2 => mLoop (mgName 4) mcB (rem.map PyData.str) env2 B2
        | .bk env2 B2 => .nx env2 B2
        | .ret d B2 => .ret d B2
        | .exc c as e2 B2 => .exc c as e2 B2
        | .bad => .bad) = _
      rw [e1]
    · rcases List.mem_cons.mp hp with rfl | hp
      · exact k1
      · exact k2 p hp
def QRS : List Str := ["q", "r", "s"]
theorem okS_qrs : ∀ x ∈ QRS, okS x := by
  intro x h
  unfold QRS at h
  simp only [List.mem_cons, List.not_mem_nil, or_false] at h
  rcases h with h | h | h <;> subst h <;> (unfold okS; decide +kernel)
theorem machine_ok (B : Bag) (hc : JB B) : ∃ (m : Mach) (B' : Bag), f__law_machine [.bag] B = .ok (eM m) B' ∧ Good m ∧ JB B' := by
  obtain ⟨r, B1, e1, p1, p2, c1⟩ := take_ok B 3 (by decide) (by decide) hc
  have hk : ∃ k : Nat, k ≤ 2 ∧ r = (k : Int) := ⟨r.toNat, by omega, by omega⟩
  obtain ⟨k, hk, rfl⟩ := hk
  have ln : (QRS.take (1 + k)).length = 1 + k := by rw [List.length_take]; show min (1 + k) 3 = _; omega
  obtain ⟨ms, o4, o5, B2, e2, f2, k2, c2⟩ := mc_loop (QRS.take (1 + k)) (by omega) (by omega) (some (.d (.int ((1 + k : Nat) : Int)))) (QRS.take (1 + k)) [] none none B1 (by simp; omega) c1
  have lm : ms.length = 1 + k := by rw [← ln, ← f2, List.length_map]
  refine ⟨ms, B2, ?_, ⟨by omega, by omega, ?_, ?_, fun p hp => ?_⟩, c2⟩
  · unfold f__law_machine b__law_machine
    refine s_fn (s_seq (B1 := B1) (e1 := [some .bag, some (.d (.int ((1 + k : Nat) : Int))), none, none, none, none, none]) ?_ ?_)
    · refine s_set (x := .int ((1 + k : Nat) : Int)) (B1 := B1) (r_op r_c (r_call (r_cons (r_bag rfl) (r_cons (r_g r_c) r_nil)) rfl e1) ?_) rfl
      show some (PyData.int (1 + (k : Int))) = _
      congr 2
    · refine s_seq (B1 := B1) (e1 := [some .bag, some (.d (.int ((1 + k : Nat) : Int))), some (.d (.list ((QRS.take (1 + k)).map PyData.str))), some (.own []), none, none, none]) ?_ ?_
      · have e3 : mSl (mLst (mCons (mG (mC (.str "q"))) (mCons (mG (mC (.str "r"))) (mCons (mG (mC (.str "s"))) mNil)))) mNoPart (mPart (mVar 1)) [some .bag, some (.d (.int ((1 + k : Nat) : Int))), none, none, none, none, none] B1 = .ok (.list ((QRS.take (1 + k)).map PyData.str)) B1 := by
          refine r_sl (x := .list (QRS.map PyData.str)) (r_lst (r_cons (r_g r_c) (r_cons (r_g r_c) (r_cons (r_g r_c) r_nil))) rfl (by decide)) r_noPart (r_part (r_var rfl)) ?_
          show some (PyData.list (cutP (QRS.map PyData.str) none (some ((1 + k : Nat) : Int)))) = _
          rw [cut_lo, List.map_take]
        show ((mG (mSl (mLst (mCons (mG (mC (.str "q"))) (mCons (mG (mC (.str "r"))) (mCons (mG (mC (.str "s"))) mNil)))) mNoPart (mPart (mVar 1))) [some .bag, some (.d (.int ((1 + k : Nat) : Int))), none, none, none, none, none] B1).s _ fun sv B1 => (mML mNil _ B1).s _ fun sv2 B2 => _) = _
        rw [r_g e3]
        rfl
      · refine s_seq (B1 := B2) (e1 := [some .bag, some (.d (.int ((1 + k : Nat) : Int))), some (.d (.list ((QRS.take (1 + k)).map PyData.str))), some (.own (ms.map eSt)), o4, o5, none]) ?_ ?_
        · show ((mSeqOfS (mVar 2) [some .bag, some (.d (.int ((1 + k : Nat) : Int))), some (.d (.list ((QRS.take (1 + k)).map PyData.str))), some (.own []), none, none, none] B1).s _ fun ds B1 => mLoop (mgName 4) mcB ds _ B1) = _
          rw [r_seqL (r_var rfl)]
          exact e2
        · exact s_ret (r_ca (r_cons (r_g (r_var rfl)) r_nil) rfl)
  · rw [f2]; exact List.Nodup.sublist (List.take_sublist _ _) (by decide)
  · rw [f2]; exact fun x hx => okS_qrs x (List.mem_of_mem_take hx)
  · rw [f2]; exact k2 p hp
end DL
set_option Elab.async false
set_option linter.all false
set_option maxRecDepth 100000
set_option maxHeartbeats 4000000
/-! QE: the moves of a good machine, what a word leads to. -/
namespace DL
open PySem L2
section
variable {env : EnvM} {B : Bag}
theorem lc_ty {α : Type} {g : PD → EnvM → Option EnvM} {c : EnvM → Bag → Res Bool} {m : EnvM → Bag → Res PD} {env0 : EnvM} {B : Bag} (enc f : α → PD) (p : α → Bool) : ∀ {xs : List α}, (∀ x ∈ xs, ∃ e1, g (enc x) env0 = some e1 ∧ c e1 B = .ok (p x) B ∧ (p x = true → m e1 B = .ok (f x) B)) → mLcGo g c m env0 (xs.map enc) B = .ok ((xs.filter p).map f) B
  | [], _ => rfl
  | d :: ds, h => by
    obtain ⟨e1, h1, h2, h3⟩ := h d List.mem_cons_self
    have ih := lc_ty enc f p (xs := ds) fun d hd => h d (List.mem_cons_of_mem _ hd)
    rw [List.map_cons]
    unfold mLcGo
    cases q : p d with
    | true =>
      rw [q] at h2
      simp only [h1, h2, h3 q, ih, List.filter_cons, q, if_true, List.map_cons]
    | false =>
      rw [q] at h2
      simp only [h1, h2, ih, List.filter_cons, q, Bool.false_eq_true, if_false]
theorem lc_ty1 {α : Type} {g : PD → EnvM → Option EnvM} {m : EnvM → Bag → Res PD} {env0 : EnvM} {B : Bag} (enc f : α → PD) {xs : List α} (h : ∀ x ∈ xs, ∃ e1, g (enc x) env0 = some e1 ∧ m e1 B = .ok (f x) B) : mLcGo g mYes m env0 (xs.map enc) B = .ok (xs.map f) B := by
  have := lc_ty (g := g) (c := mYes) (m := m) (env0 := env0) (B := B) enc f (fun _ => true) (xs := xs) (fun x hx => by
    obtain ⟨e1, h1, h2⟩ := h x hx
    exact ⟨e1, h1, rfl, fun _ => h2⟩)
  rw [this, List.filter_eq_self.mpr fun _ _ => rfl]
theorem loop_fold {α σ : Type} {g : PD → EnvM → Option EnvM} {body : EnvM → Bag → SRes} {B : Bag} (enc : α → PD) (step : σ → α → σ) (I : σ → EnvM → Prop) : ∀ {xs : List α} {s : σ} {env : EnvM}, (∀ x ∈ xs, ∀ s env, I s env → ∃ e1, g (enc x) env = some e1 ∧ ∃ e2, body e1 B = .nx e2 B ∧ I (step s x) e2) → I s env → ∃ e2, mLoop g body (xs.map enc) env B = .nx e2 B ∧ I (xs.foldl step s) e2
  | [], s, env, _, i => ⟨env, rfl, i⟩
  | x :: xs, s, env, h, i => by
    obtain ⟨e1, h1, e2, h2, i2⟩ := h x List.mem_cons_self s env i
    obtain ⟨e3, h3, i3⟩ := loop_fold enc step I (xs := xs) (fun d hd => h d (List.mem_cons_of_mem _ hd)) i2
    exact ⟨e3, by rw [List.map_cons]; unfold mLoop; simp only [h1, h2]; exact h3, i3⟩
theorem s_for1 {src : EnvM → Bag → Res (List PD)} {g : PD → EnvM → Option EnvM} {body : EnvM → Bag → SRes} {B1 : Bag} {ds : List PD} {r : SRes} (h : src env B = .ok ds B1) (h2 : mLoop g body ds env B1 = r) : mFor src g body env B = r := by
  unfold mFor; rw [h]; exact h2
theorem r_ifT {c : EnvM → Bag → Res Bool} {a b : EnvM → Bag → Res PD} {r : Res PD} {B1 : Bag} (h : c env B = .ok true B1) (h2 : a env B1 = r) : mIfE c a b env B = r := by unfold mIfE; rw [h]; exact h2
theorem r_ifF {c : EnvM → Bag → Res Bool} {a b : EnvM → Bag → Res PD} {r : Res PD} {B1 : Bag} (h : c env B = .ok false B1) (h2 : b env B1 = r) : mIfE c a b env B = r := by unfold mIfE; rw [h]; exact h2
theorem r_get1 {md mk : EnvM → Bag → Res PD} {ds : List (PD × PD)} {kd : PD} {k : Key} {B1 B2 : Bag} (h : md env B = .ok (.dict ds) B1) (h2 : mk env B1 = .ok kd B2) (hk : keyP kd = some k) : mGet1 md mk env B = .ok ((getP ds k).getD .none) B2 := by
  unfold mGet1; rw [h]; simp only [Res.bind, h2, hk]
theorem r_index {ma mb : EnvM → Bag → Res PD} {x d z : PD} {B1 B2 : Bag} (h : ma env B = .ok x B1) (hs : isSeqP x = true) (h2 : mb env B1 = .ok d B2) (hi : indexP x d = some z) : mIndex ma mb env B = .ok z B2 := by
  unfold mIndex; rw [h]; simp only [Res.bind, hs, if_true, h2, hi]
end
def idx (m : Mach) (x : Str) : Nat := (m.map (·.1)).idxOf x
def mv (m : Mach) (i : Nat) : List (Str × Nat) := match m[i]? with
  | some p => p.2.map fun q => (q.1, idx m q.2)
  | none => []
def eMI (q : Str × Nat) : PD := .tuple [.str q.1, .int (q.2 : Int)]
theorem idxOf_strs {x : Str} : ∀ {xs : List Str}, x ∈ xs → DL.idxOf (.str x) (xs.map PyData.str) = some (xs.idxOf x)
  | [], h => by cases h
  | y :: r, h => by
    rw [List.map_cons]
    unfold DL.idxOf
    rw [List.idxOf_cons]
    by_cases c : y = x
    · subst c
      simp [PyData.eqv]
    · have e : PyData.eqv (.str y) (.str x) = false := by simp [PyData.eqv, c]
      have hx : x ∈ r := by
        rcases List.mem_cons.mp h with rfl | h
        · exact absurd rfl c
        · exact h
      rw [if_neg (by rw [e]; exact Bool.false_ne_true), idxOf_strs hx]
      have e2 : (y == x) = false := by simp [c]
      simp [e2]
theorem idxOf_ints {x : Nat} : ∀ {xs : List Nat}, x ∈ xs → DL.idxOf (.int (x : Int)) (xs.map fun n : Nat => PyData.int (n : Int)) = some (xs.idxOf x)
  | [], h => by cases h
  | y :: r, h => by
    rw [List.map_cons]
    unfold DL.idxOf
    rw [List.idxOf_cons]
    by_cases c : y = x
    · subst c
      simp [PyData.eqv]
    · have e : PyData.eqv (.int (y : Int)) (.int (x : Int)) = false := by simp [PyData.eqv]; omega
      have hx : x ∈ r := by
        rcases List.mem_cons.mp h with rfl | h
        · exact absurd rfl c
        · exact h
      rw [if_neg (by rw [e]; exact Bool.false_ne_true), idxOf_ints hx]
      have e2 : (y == x) = false := by simp [c]
      simp [e2]
theorem shaped_strs {xs : List Str} (h : ∀ x ∈ xs, okS x) : SeqAt.shaped (.tuple (xs.map PyData.str)) = true ∧ SeqAt.shaped (.list (xs.map PyData.str)) = true :=
  ⟨clP_shaped (n := 1) (all_strs (n := 0) h) (by decide), clP_shaped (n := 1) (all_strs (n := 0) h) (by decide)⟩
theorem shaped_str {x : Str} (h : okS x) : SeqAt.shaped (.str x) = true := clP_shaped (n := 0) h (by decide)
theorem index_strsT {xs : List Str} {x : Str} (h : ∀ x ∈ xs, okS x) (hx : x ∈ xs) : indexP (.tuple (xs.map PyData.str)) (.str x) = some (.int (xs.idxOf x : Nat)) := by
  show (if _ then _ else _) = _
  rw [if_pos ⟨(shaped_strs h).1, shaped_str (h x hx)⟩, idxOf_strs hx]; rfl
theorem index_strsL {xs : List Str} {x : Str} (h : ∀ x ∈ xs, okS x) (hx : x ∈ xs) : indexP (.list (xs.map PyData.str)) (.str x) = some (.int (xs.idxOf x : Nat)) := by
  show (if _ then _ else _) = _
  rw [if_pos ⟨(shaped_strs h).2, shaped_str (h x hx)⟩, idxOf_strs hx]; rfl
theorem names_of_ok (m : Mach) (hm : m.length ≤ 1000) (B : Bag) : f_names_of [.d (eM m)] B = .ok (.tuple ((m.map (·.1)).map PyData.str)) B := by
  unfold f_names_of b_names_of
  refine s_fn (s_ret (r_ca (r_cons (r_g (r_lc (r_seqT (r_var (x := eM m) rfl)) (len_le (by simpa using hm)) (lc_ty1 eSt (fun p => .str p.1) fun p hp => ⟨_, rfl, r_var rfl⟩))) r_nil) ?_))
  show some (PyData.tuple _) = _
  rw [List.map_map]; rfl
theorem index_of_ok {m : Mach} (G : Good m) {x : Str} (hx : x ∈ m.map (·.1)) (B : Bag) : f_index_of [.d (eM m), .d (.str x)] B = .ok (.int (idx m x : Nat)) B := by
  unfold f_index_of b_index_of
  exact s_fn (s_ret (r_index (r_call (r_cons (r_g (r_var rfl)) r_nil) rfl (names_of_ok m (by have := G.len3; omega) B)) rfl (r_var rfl) (index_strsT G.str hx)))
theorem at_mach {m : Mach} {i : Nat} {p : Str × List (Str × Str)} (h : m[i]? = some p) : ixP (eM m) (.int (i : Int)) = some (eSt p) := atI_nat' (by rw [List.getElem?_map, h]; rfl)
theorem at_st (p : Str × List (Str × Str)) : ixP (eSt p) (.int 1) = some (.tuple (p.2.map eMv)) := atI_nat' (j := 1) rfl
theorem mv_of {m : Mach} {i : Nat} {p : Str × List (Str × Str)} (h : m[i]? = some p) : mv m i = p.2.map fun q => (q.1, idx m q.2) := by unfold mv; rw [h]
theorem moves_at_ok {m : Mach} (G : Good m) {i : Nat} (hi : i < m.length) (B : Bag) : f_moves_at [.d (eM m), .d (.int (i : Int))] B = .ok (.tuple ((mv m i).map eMI)) B := by
  have hp : m[i]? = some m[i] := List.getElem?_eq_getElem hi
  have M := G.mv m[i] (List.getElem_mem hi)
  unfold f_moves_at b_moves_at
  refine s_fn (s_ret (r_ca (r_cons (r_g (r_lc (r_seqT (r_op (r_op (r_var rfl) (r_var rfl) (at_mach hp)) r_c (at_st _))) (len_le (by have := M.len; simp; omega)) (lc_ty1 eMv (fun q => eMI (q.1, idx m q.2)) fun q hq =>
    ⟨_, rfl, r_tup (r_cons (r_g (r_var rfl)) (r_cons (r_g (r_call (r_cons (r_g (r_var rfl)) (r_cons (r_g (r_var rfl)) r_nil)) rfl (index_of_ok G (M.mem q hq).2 B))) r_nil)) rfl (show 2 ≤ sizeLine by decide)⟩))) r_nil) ?_))
  show some (PyData.tuple _) = _
  rw [mv_of hp, List.map_map]; rfl
theorem law_moves_ok {m : Mach} (G : Good m) {i : Nat} (hi : i < m.length) (B : Bag) : f__law_moves [.d (eM m), .d (.int (i : Int))] B = .ok (.list ((mv m i).map eMI)) B := by
  have hp : m[i]? = some m[i] := List.getElem?_eq_getElem hi
  have M := G.mv m[i] (List.getElem_mem hi)
  unfold f__law_moves b__law_moves
  have e1 : mLc [3, 4] (mSeqOfS (mVar 0)) (mgTup (mgCons (mgName 3) (mgCons (mgName 4) mgNil)) 2) mYes (mVar 3) [some (.d (eM m)), some (.d (.int (i : Int))), none, none, none, none] B = .ok (.list ((m.map (·.1)).map PyData.str)) B := by
    rw [List.map_map]
    exact r_lc (r_seqT (r_var (x := eM m) rfl)) (len_le (by have := G.len3; simp; omega)) (lc_ty1 eSt (fun p => .str p.1) fun p hp => ⟨_, rfl, r_var rfl⟩)
  refine s_fn (s_seq (s_set e1 rfl) (s_ret ?_))
  have e3 : (mv m i).map eMI = m[i].2.map fun q => eMI (q.1, idx m q.2) := by rw [mv_of hp, List.map_map]; rfl
  rw [e3]
  exact r_lc (r_seqT (r_op (r_op (r_var rfl) (r_var rfl) (at_mach hp)) r_c (at_st _))) (len_le (by have := M.len; simp; omega)) (lc_ty1 eMv (fun q => eMI (q.1, idx m q.2)) fun q hq =>
    ⟨_, rfl, r_tup (r_cons (r_g (r_var rfl)) (r_cons (r_g (r_index (r_var rfl) rfl (r_var rfl) (index_strsL G.str (M.mem q hq).2))) r_nil)) rfl (show 2 ≤ sizeLine by decide)⟩)
theorem mv_lt {m : Mach} (G : Good m) {i : Nat} {q : Str × Nat} (h : q ∈ mv m i) : q.2 < m.length ∧ q.1 ∈ ABC ∧ i < m.length := by
  unfold mv at h
  cases e : m[i]? with
  | none => rw [e] at h; cases h
  | some p =>
    rw [e] at h
    obtain ⟨r, hr, rfl⟩ := List.mem_map.mp h
    have hp := List.mem_of_getElem? e
    have M := (G.mv p hp).mem r hr
    refine ⟨?_, M.1, (List.getElem?_eq_some_iff.mp e).1⟩
    have := List.idxOf_lt_length_of_mem M.2
    simpa [idx] using this
theorem mv_nd {m : Mach} (G : Good m) (i : Nat) : ((mv m i).map (·.1)).Nodup := by
  unfold mv
  cases e : m[i]? with
  | none => simp
  | some p =>
    have := (G.mv p (List.mem_of_getElem? e)).nd
    simpa [List.map_map, Function.comp_def] using this
theorem mv_len {m : Mach} (G : Good m) (i : Nat) : (mv m i).length ≤ 3 := by
  unfold mv
  cases e : m[i]? with
  | none => simp
  | some p =>
    have := (G.mv p (List.mem_of_getElem? e)).len
    simpa using this
/-! what a letter, a word leads to -/
def optP : Option Nat → PD
  | none => .none
  | some j => .int (j : Int)
theorem merge_moves : ∀ (ms : List (Str × Nat)) (acc : List (PD × PD)), (ms.map (·.1)).Nodup → (∀ q ∈ ms, hasP acc (.inr q.1) = false) → mergeP acc (ms.map eMI) = some (acc ++ ms.map fun q => (.str q.1, .int (q.2 : Int)))
  | [], acc, _, _ => by rw [List.map_nil, List.map_nil, List.append_nil]; rfl
  | q :: ms, acc, hn, h => by
    rw [List.map_cons, List.nodup_cons] at hn
    rw [List.map_cons]
    have e0 : eMI q = .tuple [.str q.1, .int (q.2 : Int)] := rfl
    rw [e0, mergeP_pair (j := .inr q.1) rfl]
    have e1 : putP acc (.inr q.1) (.int (q.2 : Int)) = acc ++ [(.str q.1, .int (q.2 : Int))] := by
      unfold putP
      rw [if_neg (by rw [h q List.mem_cons_self]; exact Bool.false_ne_true)]
      rfl
    rw [e1, merge_moves ms _ hn.2 fun r hr => ?_, List.map_cons, List.append_assoc]
    · rfl
    · have h1 := h r (List.mem_cons_of_mem _ hr)
      have h2 : q.1 ≠ r.1 := fun z => hn.1 (by rw [z]; exact List.mem_map_of_mem hr)
      unfold hasP at h1 ⊢
      rw [List.any_append, h1, Bool.false_or]
      simp [keyP, h2]
theorem get_moves (l : Str) : ∀ ms : List (Str × Nat), ((getP (ms.map fun q => (PyData.str q.1, PyData.int (q.2 : Int))) (.inr l)).getD .none) = optP (ms.lookup l)
  | [] => rfl
  | (x, j) :: ms => by
    have ih := get_moves l ms
    rw [List.map_cons]
    unfold getP at ih ⊢
    rw [List.find?_cons]
    by_cases c : x = l
    · subst c
      simp [keyP, optP]
    · have e1 : (l == x) = false := by simp; exact fun z => c z.symm
      have e2 : decide (keyP (PyData.str x) = some (Sum.inr l)) = false := by simp [keyP, c]
      simp only [e2, List.lookup_cons, e1]
      exact ih
def led1 (m : Mach) (i : Nat) (l : Str) : Option Nat := (mv m i).lookup l
theorem led_ok {m : Mach} (G : Good m) {i : Nat} (hi : i < m.length) (l : Str) (B : Bag) : f_led [.d (eM m), .d (.int (i : Int)), .d (.str l)] B = .ok (optP (led1 m i l)) B := by
  unfold f_led b_led
  have e1 : mFrV (mDictOf (mCall 2 f_moves_at (mCons (mG (mVar 0)) (mCons (mG (mVar 1)) mNil)))) [some (.d (eM m)), some (.d (.int (i : Int))), some (.d (.str l))] B = .ok (.dict ((mv m i).map fun q => (PyData.str q.1, PyData.int (q.2 : Int)))) B := by
    have e0 : mCall 2 f_moves_at (mCons (mG (mVar 0)) (mCons (mG (mVar 1)) mNil)) [some (.d (eM m)), some (.d (.int (i : Int))), some (.d (.str l))] B = .ok (.tuple ((mv m i).map eMI)) B :=
      r_call (r_cons (r_g (r_var rfl)) (r_cons (r_g (r_var rfl)) r_nil)) rfl (moves_at_ok G hi B)
    have e2 := merge_moves (mv m i) [] (mv_nd G i) fun q _ => rfl
    rw [List.nil_append] at e2
    unfold mFrV mDictOf
    rw [e0]
    simp only [Res.bind, e2]
  refine s_fn (s_ret ?_)
  have e3 := r_get1 (k := .inr l) e1 (r_var (i := 2) (x := .str l) rfl) rfl
  rw [get_moves] at e3
  exact e3
theorem led_lt {m : Mach} (G : Good m) {i j : Nat} {l : Str} (h : led1 m i l = some j) : j < m.length ∧ l ∈ ABC ∧ (l, j) ∈ mv m i := by
  have hm : (l, j) ∈ mv m i := by
    unfold led1 at h
    generalize mv m i = ms at h ⊢
    induction ms with
    | nil => cases h
    | cons q ms ih =>
      obtain ⟨x, k⟩ := q
      rw [List.lookup_cons] at h
      cases c : l == x with
      | true =>
        simp only [c] at h
        have : l = x := by simpa using c
        cases h; rw [this]; exact List.mem_cons_self
      | false =>
        simp only [c] at h
        exact List.mem_cons_of_mem _ (ih h)
  have := mv_lt G hm
  exact ⟨this.1, this.2.1, hm⟩
theorem led_of {m : Mach} (G : Good m) {i j : Nat} {l : Str} (h : (l, j) ∈ mv m i) : led1 m i l = some j := by
  have nd := mv_nd G i
  unfold led1
  revert h nd
  generalize mv m i = ms
  intro h nd
  induction ms with
  | nil => cases h
  | cons q ms ih =>
    obtain ⟨x, k⟩ := q
    rw [List.map_cons, List.nodup_cons] at nd
    rw [List.lookup_cons]
    rcases List.mem_cons.mp h with e | h2
    · cases e; simp
    · have e : (l == x) = false := by
        simp only [beq_eq_false_iff_ne, ne_eq]
        rintro rfl
        exact nd.1 (List.mem_map_of_mem (f := (·.1)) h2)
      simp only [e]
      exact ih h2 nd.2
def stp (m : Mach) (s : Option Nat) (l : Str) : Option Nat := s.bind fun i => led1 m i l
def run (m : Mach) (i : Nat) (w : List Str) : Option Nat := w.foldl (stp m) (some i)
theorem optP_none {s : Option Nat} : notNoneP (optP s) .none = some s.isSome := by cases s <;> rfl
theorem end_by_ok {m : Mach} (G : Good m) {i : Nat} (hi : i < m.length) (w : List Str) (B : Bag) : f_end_by [.d (eM m), .d (.int (i : Int)), .d (.tuple (w.map PyData.str))] B = .ok (optP (run m i w)) B := by
  unfold f_end_by b_end_by
  obtain ⟨e2, h2, I2⟩ := loop_fold (g := mgName 3) (B := B) (body := mSet (mgName 1) (mIfE (mCmp notNoneP (mVar 1) (mC .none)) (mCall 3 f_led (mCons (mG (mVar 0)) (mCons (mG (mVar 1)) (mCons (mG (mVar 3)) mNil)))) (mC .none))) PyData.str (stp m)
    (fun s env => (∀ j, s = some j → j < m.length) ∧ ∃ o3, env = [some (.d (eM m)), some (.d (optP s)), some (.d (.tuple (w.map PyData.str))), o3]) (xs := w) (s := some i) (env := [some (.d (eM m)), some (.d (.int (i : Int))), some (.d (.tuple (w.map PyData.str))), none])
    (fun l _ s env hI => by
      obtain ⟨hs, o3, rfl⟩ := hI
      refine ⟨_, rfl, [some (.d (eM m)), some (.d (optP (stp m s l))), some (.d (.tuple (w.map PyData.str))), some (.d (.str l))], ?_, ?_, _, rfl⟩
      · refine s_set (x := optP (stp m s l)) (B1 := B) ?_ rfl
        cases s with
        | none => exact r_ifF (r_cmp (r_var (x := .none) rfl) r_c rfl) r_c
        | some j => exact r_ifT (r_cmp (r_var (x := optP (some j)) rfl) r_c (by rw [optP_none]; rfl)) (r_call (r_cons (r_g (r_var rfl)) (r_cons (r_g (r_var rfl)) (r_cons (r_g (r_var rfl)) r_nil))) rfl (led_ok G (hs j rfl) l B))
      · intro j hj
        cases s with
        | none => cases hj
        | some k => exact (led_lt G hj).1)
    ⟨fun j hj => by cases hj; exact hi, none, rfl⟩
  obtain ⟨_, o3, rfl⟩ := I2
  exact s_fn (s_seq (s_for1 (r_seqT (r_var (x := .tuple (w.map PyData.str)) rfl)) h2) (s_ret (r_var rfl)))
end DL
set_option Elab.async false
set_option linter.all false
set_option maxRecDepth 100000
set_option maxHeartbeats 4000000
/-! QF: the law's end of a word; letters; words and rows. -/
namespace DL
open PySem L2
theorem foldl_none (m : Mach) : ∀ w : List Str, w.foldl (stp m) none = none
  | [] => rfl
  | l :: w => foldl_none m w
theorem run_cons (m : Mach) (i : Nat) (l : Str) (w : List Str) : run m i (l :: w) = (led1 m i l).bind fun j => run m j w := by
  unfold run
  rw [List.foldl_cons]
  show w.foldl (stp m) (led1 m i l) = _
  cases led1 m i l with
  | none => exact foldl_none m w
  | some j => rfl
theorem filt_look (l : Str) : ∀ ms : List (Str × Nat), (ms.map (·.1)).Nodup → ms.filter (fun q => decide (q.1 = l)) = ((ms.lookup l).map fun j => (l, j)).toList
  | [], _ => rfl
  | (x, j) :: ms, h => by
    rw [List.map_cons, List.nodup_cons] at h
    have ih := filt_look l ms h.2
    rw [List.filter_cons, List.lookup_cons]
    by_cases c : x = l
    · subst c
      have e : ms.filter (fun q => decide (q.1 = x)) = [] := by
        rw [List.filter_eq_nil_iff]
        intro q hq
        simp only [decide_eq_true_eq]
        rintro rfl
        exact h.1 (List.mem_map_of_mem (f := (·.1)) hq)
      simp [e]
    · have e : (l == x) = false := by simp only [beq_eq_false_iff_ne, ne_eq]; exact fun z => c z.symm
      simp only [e, decide_eq_false c, Bool.false_eq_true, if_false]
      exact ih
theorem eqP_str {x l : Str} (h : okS x) (h2 : okS l) : eqP (.str x) (.str l) = some (decide (x = l)) := by
  rw [eqP_cl (n := 0) (m := 0) (d := .str x) (e := .str l) h h2]
  congr 1
  exact decide_eq_decide.mpr ⟨fun e => by cases e; rfl, fun e => by rw [e]⟩
abbrev leB : EnvM → Bag → SRes := (mSeq (mSet (mgName 4) (mLc [5, 6] (mSeqOfS (mCall 2 f__law_moves (mCons (mG (mVar 0)) (mCons (mG (mVar 1)) mNil)))) (mgTup (mgCons (mgName 5) (mgCons (mgName 6) mgNil)) 2) (mCmp eqP (mVar 5) (mVar 3)) (mVar 6)))
  (mSeq (mIf (mCmp eqP (mVar 4) (mLst mNil)) (mRet (mC .none)) mSkip)
  (mSet (mgName 1) (mOp ixP (mVar 4) (mC (.int 0))))))
/-- the moves by a letter -/
theorem by_letter {m : Mach} (G : Good m) (i : Nat) {l : Str} (hl : okS l) {env0 : EnvM} {B : Bag} {g : PD → EnvM → Option EnvM} {c : EnvM → Bag → Res Bool} {mm : EnvM → Bag → Res PD}
    (h : ∀ q : Str × Nat, ∃ e1, g (eMI q) env0 = some e1 ∧ (okS q.1 → c e1 B = .ok (decide (q.1 = l)) B) ∧ mm e1 B = .ok (.int (q.2 : Int)) B) : mLcGo g c mm env0 ((mv m i).map eMI) B = .ok (((led1 m i l).map fun j => PyData.int (j : Int)).toList) B := by
  have e := lc_ty (g := g) (c := c) (m := mm) (env0 := env0) (B := B) eMI (fun q => .int (q.2 : Int)) (fun q => decide (q.1 = l)) (xs := mv m i) (fun q hq => by
    obtain ⟨e1, h1, h2, h3⟩ := h q
    exact ⟨e1, h1, h2 (okS_abc _ (mv_lt G hq).2.1), fun _ => h3⟩)
  rw [e, filt_look l _ (mv_nd G i)]
  unfold led1
  cases (mv m i).lookup l <;> rfl
theorem le_loop {m : Mach} (G : Good m) (o2 : Option SV) (B : Bag) : ∀ (w : List Str) (i : Nat) (o3 o4 : Option SV), i < m.length → (∀ x ∈ w, okS x) →
    (∃ (j : Nat) (o3' o4' : Option SV), run m i w = some j ∧ mLoop (mgName 3) leB (w.map PyData.str) [some (.d (eM m)), some (.d (.int (i : Int))), o2, o3, o4, none, none] B = .nx [some (.d (eM m)), some (.d (.int (j : Int))), o2, o3', o4', none, none] B) ∨
    (run m i w = none ∧ mLoop (mgName 3) leB (w.map PyData.str) [some (.d (eM m)), some (.d (.int (i : Int))), o2, o3, o4, none, none] B = .ret .none B)
  | [], i, o3, o4, hi, _ => .inl ⟨i, o3, o4, rfl, rfl⟩
  | l :: w, i, o3, o4, hi, hw => by
    have hl := hw l List.mem_cons_self
    have e1 : mLc [5, 6] (mSeqOfS (mCall 2 f__law_moves (mCons (mG (mVar 0)) (mCons (mG (mVar 1)) mNil)))) (mgTup (mgCons (mgName 5) (mgCons (mgName 6) mgNil)) 2) (mCmp eqP (mVar 5) (mVar 3)) (mVar 6) [some (.d (eM m)), some (.d (.int (i : Int))), o2, some (.d (.str l)), o4, none, none] B = .ok (.list (((led1 m i l).map fun j => PyData.int (j : Int)).toList)) B :=
      r_lc (r_seqL (r_call (r_cons (r_g (r_var rfl)) (r_cons (r_g (r_var rfl)) r_nil)) rfl (law_moves_ok G hi B))) (len_le (by have := mv_len G i; simp; omega)) (by_letter G i hl fun q => ⟨_, rfl, fun hq => r_cmp (r_var (x := .str q.1) rfl) (r_var (x := .str l) rfl) (eqP_str hq hl), r_var rfl⟩)
    have step : ∀ r, leB [some (.d (eM m)), some (.d (.int (i : Int))), o2, some (.d (.str l)), o4, none, none] B = r → mLoop (mgName 3) leB ((l :: w).map PyData.str) [some (.d (eM m)), some (.d (.int (i : Int))), o2, o3, o4, none, none] B = (match r with
      | .nx env2 B2 => mLoop (mgName 3) leB (w.map PyData.str) env2 B2
      | .ct env2 B2 => mLoop (mgName 3) leB (w.map PyData.str) env2 B2
      | .bk env2 B2 => .nx env2 B2
      | .ret d B2 => .ret d B2
      | .exc c as e2 B2 => .exc c as e2 B2
      | .bad => .bad) := by
      intro r hr; rw [← hr]; rfl
    rw [run_cons]
    cases q : led1 m i l with
    | none =>
      rw [q] at e1
      refine .inr ⟨rfl, ?_⟩
      rw [step (.ret .none B) (s_seq (s_set e1 rfl) (s_seqR (s_ifT (r_cmp (r_var (x := .list []) rfl) (r_lst r_nil rfl (by decide)) (by rw [eqP_cl (n := 1) (m := 1) (d := .list []) (e := .list []) rfl rfl, decide_eq_true rfl])) (s_ret r_c))))]
    | some j =>
      rw [q] at e1
      have e2 : eqP (.list [.int (j : Int)]) (.list []) = some false := by
        rw [eqP_cl (n := 1) (m := 1) (d := .list [.int (j : Int)]) (e := .list []) rfl rfl, decide_eq_false fun z => by cases z]
      have e3 := step (.nx [some (.d (eM m)), some (.d (.int (j : Int))), o2, some (.d (.str l)), some (.d (.list [.int (j : Int)])), none, none] B) (s_seq (s_set e1 rfl) (s_seq (s_ifF (r_cmp (r_var (x := .list [.int (j : Int)]) rfl) (r_lst r_nil rfl (by decide)) e2) s_skip) (s_set (x := .int (j : Int)) (B1 := B) (r_op (r_var (x := .list [.int (j : Int)]) rfl) r_c (atI0 _ _)) rfl)))
      rw [e3]
      exact le_loop G o2 B w j _ _ (led_lt G q).1 fun x hx => hw x (List.mem_cons_of_mem _ hx)
theorem law_end_ok {m : Mach} (G : Good m) {i : Nat} (hi : i < m.length) {w : List Str} (hw : ∀ x ∈ w, okS x) (B : Bag) : f__law_end [.d (eM m), .d (.int (i : Int)), .d (.tuple (w.map PyData.str))] B = .ok (optP (run m i w)) B := by
  unfold f__law_end b__law_end
  rcases le_loop G (some (.d (.tuple (w.map PyData.str)))) B w i none none hi hw with ⟨j, o3, o4, e1, e2⟩ | ⟨e1, e2⟩
  · rw [e1]
    exact s_fn (s_seq (s_for1 (r_seqT (r_var (x := .tuple (w.map PyData.str)) rfl)) e2) (s_ret (r_var rfl)))
  · rw [e1]
    exact s_fn (s_seqR (s_for1 (r_seqT (r_var (x := .tuple (w.map PyData.str)) rfl)) e2))
theorem r_dcx2 {vs vs1 : List Nat} {mi mi1 : EnvM → Bag → Res (List PD)} {g g1 : PD → EnvM → Option EnvM} {c c1 : EnvM → Bag → Res Bool} {mk mv : EnvM → Bag → Res PD} {env : EnvM} {B B1 B2 : Bag} {ds : List PD} {acc : List (PD × PD)}
    (h : mi env B = .ok ds B1) (h2 : mDGo2 g c mi1 g1 c1 mk mv vs1 (wipeE env vs) ds [] B1 = .ok acc B2) : mFrV (mDcx2 vs vs1 mi g c mi1 g1 c1 mk mv) env B = .ok (.dict acc) B2 := by
  unfold mFrV mDcx2; rw [h]; simp only [Res.bind, h2]
/-! letters -/
def addL (acc : List Str) (x : Str) : List Str := if x ∈ acc then acc else acc ++ [x]
def eKs (acc : List Str) : List (PD × PD) := acc.map fun x => (.str x, .bool true)
theorem has_eKs (acc : List Str) (x : Str) : hasP (eKs acc) (.inr x) = decide (x ∈ acc) := by
  induction acc with
  | nil => rfl
  | cons y r ih =>
    have e : hasP (eKs (y :: r)) (.inr x) = (decide (keyP (.str y) = some (.inr x)) || hasP (eKs r) (.inr x)) := rfl
    rw [e, ih]
    by_cases c : y = x
    · subst c; simp [keyP]
    · have : x ≠ y := fun z => c z.symm
      simp [keyP, c, this]
theorem put_eKs (acc : List Str) (x : Str) : putP (eKs acc) (.inr x) (.bool true) = eKs (addL acc x) := by
  unfold putP addL
  rw [has_eKs]
  by_cases c : x ∈ acc
  · rw [if_pos (by simpa using c), if_pos c]
    unfold eKs
    rw [List.map_map]
    refine List.map_congr_left fun y _ => ?_
    show (if keyP (PyData.str y) = some (Sum.inr x) then _ else _) = _
    by_cases k : keyP (PyData.str y) = some (Sum.inr x)
    · rw [if_pos k]
    · rw [if_neg k]
  · rw [if_neg (by simpa using c), if_neg c]
    unfold eKs
    rw [List.map_append]; rfl
theorem mem_addL (acc : List Str) (x y : Str) : y ∈ addL acc x ↔ y ∈ acc ∨ y = x := by
  unfold addL
  by_cases c : x ∈ acc
  · rw [if_pos c]
    exact ⟨.inl, fun h => h.elim id fun e => by rw [e]; exact c⟩
  · rw [if_neg c]; simp
theorem len_addL (acc : List Str) (x : Str) : (addL acc x).length ≤ acc.length + 1 := by
  unfold addL
  by_cases c : x ∈ acc
  · rw [if_pos c]; omega
  · rw [if_neg c]; simp
theorem mem_addLs : ∀ (xs acc : List Str) (y : Str), y ∈ xs.foldl addL acc ↔ y ∈ acc ∨ y ∈ xs
  | [], acc, y => by simp
  | x :: xs, acc, y => by rw [List.foldl_cons, mem_addLs xs, mem_addL, List.mem_cons, or_assoc]
theorem len_addLs : ∀ (xs acc : List Str), (xs.foldl addL acc).length ≤ acc.length + xs.length
  | [], acc => by simp
  | x :: xs, acc => by
    have := len_addLs xs (addL acc x)
    have := len_addL acc x
    rw [List.foldl_cons, List.length_cons]; omega
theorem dgo_letters (o0 o1 o2 : Option SV) (B : Bag) : ∀ (ms : List (Str × Str)) (acc : List Str), acc.length + ms.length ≤ 1000 →
    mDGo (mgTup (mgCons (mgName 3) (mgCons (mgName 4) mgNil)) 2) mYes (mVar 3) (mC (.bool true)) [o0, o1, o2, none, none] (ms.map eMv) (eKs acc) B = .ok (eKs ((ms.map (·.1)).foldl addL acc)) B
  | [], acc, _ => rfl
  | q :: ms, acc, h => by
    rw [List.length_cons] at h
    have ih := dgo_letters o0 o1 o2 B ms (addL acc q.1) (by have := len_addL acc q.1; omega)
    have e : (eKs acc).length < sizeLine := len_lt (by unfold eKs; rw [List.length_map]; omega)
    rw [List.map_cons, List.map_cons, List.foldl_cons, ← ih, ← put_eKs]
    show (if (eKs acc).length < sizeLine then _ else _) = _
    rw [if_pos e]
theorem dgo2_letters (o0 : Option SV) (B : Bag) : ∀ (ms : Mach) (acc : List Str), acc.length + 3 * ms.length ≤ 1000 → (∀ p ∈ ms, p.2.length ≤ 3) →
    mDGo2 (mgTup (mgCons (mgName 1) (mgCons (mgName 2) mgNil)) 2) mYes (mSeqOfS (mVar 2)) (mgTup (mgCons (mgName 3) (mgCons (mgName 4) mgNil)) 2) mYes (mVar 3) (mC (.bool true)) [3, 4] [o0, none, none, none, none] (ms.map eSt) (eKs acc) B = .ok (eKs ((ms.flatMap fun p => p.2.map (·.1)).foldl addL acc)) B
  | [], acc, _, _ => rfl
  | p :: ms, acc, h, hp => by
    rw [List.length_cons] at h
    have hp1 := hp p List.mem_cons_self
    have ln := len_addLs (p.2.map (·.1)) acc
    rw [List.length_map] at ln
    have ih := dgo2_letters o0 B ms ((p.2.map (·.1)).foldl addL acc) (by omega) fun r hr => hp r (List.mem_cons_of_mem _ hr)
    have e1 := dgo_letters o0 (some (.d (.str p.1))) (some (.d (.tuple (p.2.map eMv)))) B p.2 acc (by omega)
    rw [List.map_cons, List.flatMap_cons, List.foldl_append, ← ih]
    show (match mDGo (mgTup (mgCons (mgName 3) (mgCons (mgName 4) mgNil)) 2) mYes (mVar 3) (mC (.bool true)) [o0, some (.d (.str p.1)), some (.d (.tuple (p.2.map eMv))), none, none] (p.2.map eMv) (eKs acc) B with
      | .ok acc' B3 => mDGo2 (mgTup (mgCons (mgName 1) (mgCons (mgName 2) mgNil)) 2) mYes (mSeqOfS (mVar 2)) (mgTup (mgCons (mgName 3) (mgCons (mgName 4) mgNil)) 2) mYes (mVar 3) (mC (.bool true)) [3, 4] [o0, none, none, none, none] (ms.map eSt) acc' B3
      | _ => .bad) = _
    rw [e1]
def flt (m : Mach) : List Str := m.flatMap fun p => p.2.map (·.1)
theorem letters_ok {m : Mach} (G : Good m) : ∃ ls : List Str, (∀ x, x ∈ ls ↔ x ∈ flt m) ∧ ∀ B, f_letters_of [.d (eM m)] B = .ok (.tuple (ls.map PyData.str)) B := by
  have h3 : ∀ p ∈ m, p.2.length ≤ 3 := fun p hp => (G.mv p hp).len
  have l3 := G.len3
  have fl : (flt m).length ≤ 3 * m.length := by
    unfold flt
    clear l3 G
    induction m with
    | nil => simp
    | cons p r ih =>
      have := h3 p List.mem_cons_self
      have := ih fun q hq => h3 q (List.mem_cons_of_mem _ hq)
      rw [List.flatMap_cons, List.length_append, List.length_map, List.length_cons]; omega
  have lk := len_addLs (flt m) []
  refine ⟨sortS ((flt m).foldl addL []), fun x => ?_, fun B => ?_⟩
  · rw [(sortS_perm _).mem_iff, mem_addLs]; simp
  · unfold f_letters_of b_letters_of
    have e1 := dgo2_letters (some (.d (eM m))) B m [] (by simp; omega) h3
    have e2 : mFrV (mDcx2 [1, 2, 3, 4] [3, 4] (mSeqOfS (mVar 0)) (mgTup (mgCons (mgName 1) (mgCons (mgName 2) mgNil)) 2) mYes (mSeqOfS (mVar 2)) (mgTup (mgCons (mgName 3) (mgCons (mgName 4) mgNil)) 2) mYes (mVar 3) (mC (.bool true))) [some (.d (eM m)), none, none, none, none] B = .ok (.dict (eKs ((flt m).foldl addL []))) B := by
      exact r_dcx2 (r_seqT (r_var (x := eM m) rfl)) e1
    refine s_fn (s_ret (r_ca (r_cons (r_g (r_ca (r_cons (r_g e2) r_nil) (?_ : _ = some (.list ((sortS ((flt m).foldl addL [])).map PyData.str))))) r_nil) rfl))
    show (match unS ((eKs ((flt m).foldl addL [])).map (·.1)) with | some xs => if xs.length < 64 then some (PyData.list ((sortS xs).map PyData.str)) else none | none => none) = _
    have e3 : (eKs ((flt m).foldl addL [])).map (·.1) = ((flt m).foldl addL []).map PyData.str := by unfold eKs; rw [List.map_map]; rfl
    rw [e3, unS_strs]
    show (if _ then _ else _) = _
    rw [if_pos (by simp at lk; omega)]
end DL
set_option Elab.async false
set_option linter.all false
set_option maxRecDepth 100000
set_option maxHeartbeats 4000000
/-! QG: words and rows, the standings along a row. -/
namespace DL
open PySem L2
theorem tups_all {n : Nat} {xs : List Str} (h : ∀ x ∈ xs, okS x) : (xs.map PyData.str).all (clP n) = true := all_strs h
theorem mem_strs {x : Str} {xs : List Str} : PyData.str x ∈ xs.map PyData.str ↔ x ∈ xs := by
  rw [List.mem_map]
  exact ⟨fun ⟨y, h, e⟩ => by cases e; exact h, fun h => ⟨x, h, rfl⟩⟩
theorem in_strsT {x : Str} {xs : List Str} (h : okS x) (hs : ∀ x ∈ xs, okS x) : inAP (.str x) (.tuple (xs.map PyData.str)) = some (decide (x ∈ xs)) := by
  rw [inAP_tup (n := 0) (m := 0) (d := .str x) h (all_strs hs)]
  exact congrArg some (decide_eq_decide.mpr mem_strs)
theorem in_strsL {x : Str} {xs : List Str} (h : okS x) (hs : ∀ x ∈ xs, okS x) : inAP (.str x) (.list (xs.map PyData.str)) = some (decide (x ∈ xs)) := by
  rw [inAP_list (n := 0) (m := 0) (d := .str x) h (all_strs hs)]
  exact congrArg some (decide_eq_decide.mpr mem_strs)
theorem flt_abc {m : Mach} (G : Good m) {x : Str} (h : x ∈ flt m) : x ∈ ABC := by
  unfold flt at h
  obtain ⟨p, hp, h⟩ := List.mem_flatMap.mp h
  obtain ⟨q, hq, rfl⟩ := List.mem_map.mp h
  exact ((G.mv p hp).mem q hq).1
theorem unBo_mapQ : ∀ bs : List Bool, unBo (bs.map PyData.bool) = some bs
  | [] => rfl
  | b :: r => by rw [List.map_cons]; unfold unBo; rw [unBo_mapQ r]; rfl
theorem allP_map {α : Type} (xs : List α) (f : α → Bool) : (unD [.d (.list (xs.map fun x => PyData.bool (f x)))]).bind allP = some (.bool (xs.all f)) := by
  show (unBo (xs.map fun x => PyData.bool (f x))).bind (fun bs => some (PyData.bool (bs.all id))) = _
  have e : xs.map (fun x => PyData.bool (f x)) = (xs.map f).map PyData.bool := by rw [List.map_map]; rfl
  rw [e, unBo_mapQ]
  show some (PyData.bool ((xs.map f).all id)) = _
  rw [List.all_map]; rfl
theorem is_word_ok {m : Mach} (G : Good m) {w : List Str} (hw : ∀ x ∈ w, okS x) (hl : w.length ≤ 400) (B : Bag) : f_is_word [.d (eM m), .d (.tuple (w.map PyData.str))] B = .ok (.bool (w.all fun x => decide (x ∈ flt m))) B := by
  obtain ⟨ls, h1, h2⟩ := letters_ok G
  have hls : ∀ x ∈ ls, okS x := fun x hx => okS_abc x (flt_abc G ((h1 x).mp hx))
  unfold f_is_word b_is_word
  refine s_fn (s_seq (B1 := B) (s_ifF (r_orF (r_not (r_truB (k := true) (r_isi (x := .tuple (w.map PyData.str)) (r_var rfl)))) (r_cmp (r_ca (r_cons (r_g (r_var (x := .tuple (w.map PyData.str)) rfl)) r_nil) (lenP_tuple _)) r_c (?_ : gtP _ (.int 400) = some false))) s_skip) (s_ret (r_ca (r_cons (r_g (r_lc (ys := w.map fun x => .bool (decide (x ∈ flt m))) (r_seqT (r_var (x := .tuple (w.map PyData.str)) rfl)) (len_le (by simp; omega)) (lc_ty1 PyData.str _ fun x hx => ⟨_, rfl, ?_⟩))) r_nil) (allP_map w _))))
  · rw [gtP_int, decide_eq_false (by simp; omega)]
  · have e : decide (x ∈ flt m) = (true && decide (x ∈ ls)) := by rw [Bool.true_and]; exact decide_eq_decide.mpr (h1 x).symm
    rw [e]
    exact r_andV (r_isi (x := .str x) (r_var rfl)) fun _ => r_b (r_cmp (r_var (x := .str x) rfl) (r_call (r_cons (r_g (r_var rfl)) r_nil) rfl (h2 B)) (in_strsT (hw x hx) hls))
theorem run_flt {m : Mach} (G : Good m) : ∀ (w : List Str) (i : Nat), (run m i w).isSome = true → (w.all fun x => decide (x ∈ flt m)) = true
  | [], i, _ => rfl
  | l :: w, i, h => by
    rw [run_cons] at h
    cases q : led1 m i l with
    | none => rw [q] at h; cases h
    | some j =>
      rw [q] at h
      rw [List.all_cons, run_flt G w j h, Bool.and_true]
      have hm := (led_lt G q).2.2
      unfold mv at hm
      cases e : m[i]? with
      | none => rw [e] at hm; cases hm
      | some p =>
        rw [e] at hm
        obtain ⟨r, hr, e2⟩ := List.mem_map.mp hm
        cases e2
        exact decide_eq_true (List.mem_flatMap.mpr ⟨p, List.mem_of_getElem? e, List.mem_map_of_mem hr⟩)
theorem is_row_ok {m : Mach} (G : Good m) {w : List Str} (hw : ∀ x ∈ w, okS x) (hl : w.length ≤ 400) (B : Bag) : f_is_row [.d (eM m), .d (.tuple (w.map PyData.str))] B = .ok (.bool (run m 0 w).isSome) B := by
  unfold f_is_row b_is_row
  have e : (run m 0 w).isSome = ((w.all fun x => decide (x ∈ flt m)) && (run m 0 w).isSome) := by
    cases h : (run m 0 w).isSome with
    | false => rw [Bool.and_false]
    | true => rw [run_flt G w 0 h]; rfl
  rw [e]
  exact s_fn (s_ret (r_andV (r_call (r_cons (r_g (r_var rfl)) (r_cons (r_g (r_var rfl)) r_nil)) rfl (is_word_ok G hw hl B)) fun _ =>
    r_b (r_cmp (r_call (r_cons (r_g (r_var rfl)) (r_cons (r_g r_c) (r_cons (r_g (r_var rfl)) r_nil))) rfl (end_by_ok G (i := 0) (by have := G.len1; omega) w B)) r_c optP_none)))
theorem is_row_bad {m : Mach} {d : PD} {B : Bag} (h : f_is_word [.d (eM m), .d d] B = .ok (.bool false) B) : f_is_row [.d (eM m), .d d] B = .ok (.bool false) B := by
  unfold f_is_row b_is_row
  have e := r_andV (k' := false) (B := B) (env := [some (.d (eM m)), some (.d d)]) (ma := mCall 2 f_is_word (mCons (mG (mVar 0)) (mCons (mG (mVar 1)) mNil))) (mb := mB (mCmp notNoneP (mCall 3 f_end_by (mCons (mG (mVar 0)) (mCons (mG (mC (.int 0))) (mCons (mG (mVar 1)) mNil)))) (mC .none))) (r_call (r_cons (r_g (r_var rfl)) (r_cons (r_g (r_var rfl)) r_nil)) rfl h) fun z => by cases z
  exact s_fn (s_ret e)
theorem r_callE {np : Nat} {f : List SV → Bag → Res PD} {m : EnvM → Bag → Res (List SV)} {ss : List SV} {env : EnvM} {B B1 : Bag} {r : Res PD} (h : m env B = .ok ss B1) (hl : ss.length = np) (hf : f ss B1 = r) : mCallE np f m env B = r := by
  unfold mCallE; rw [h]; simp only [Res.bind, hl, if_true, hf]
theorem check_row_ok {m : Mach} {d : PD} {B : Bag} (h : f_is_row [.d (eM m), .d d] B = .ok (.bool true) B) : f_check_row [.d (eM m), .d d] B = .ok .none B := by
  unfold f_check_row b_check_row mFn
  rw [show (mIf (mNot (mTru truP (mCall 2 f_is_row (mCons (mG (mVar 0)) (mCons (mG (mVar 1)) mNil))))) (mRaise "Refused" fsP_Refused (mCons (mG (mC (.str "row"))) mNil)) mSkip) (env0 2 [.d (eM m), .d d]) B = .nx (env0 2 [.d (eM m), .d d]) B from
    s_ifF (r_not (r_truB (r_call (r_cons (r_g (r_var rfl)) (r_cons (r_g (r_var rfl)) r_nil)) rfl h))) s_skip]
  rfl
theorem check_row_bad {m : Mach} {d : PD} {B : Bag} (h : f_is_row [.d (eM m), .d d] B = .ok (.bool false) B) : f_check_row [.d (eM m), .d d] B = .exc "Refused" [("why", .str "row")] B := by
  unfold f_check_row b_check_row mFn
  rw [show (mIf (mNot (mTru truP (mCall 2 f_is_row (mCons (mG (mVar 0)) (mCons (mG (mVar 1)) mNil))))) (mRaise "Refused" fsP_Refused (mCons (mG (mC (.str "row"))) mNil)) mSkip) (env0 2 [.d (eM m), .d d]) B = .exc "Refused" [("why", .str "row")] (env0 2 [.d (eM m), .d d]) B from
    s_ifT (r_not (r_truB (r_call (r_cons (r_g (r_var rfl)) (r_cons (r_g (r_var rfl)) r_nil)) rfl h))) rfl]
  rfl
/-- the standings along a word -/
def ends (m : Mach) : Nat → List Str → List Nat
  | i, [] => [i]
  | i, l :: w => i :: (match led1 m i l with
    | some j => ends m j w
    | none => [])
theorem ends_cons (m : Mach) (i : Nat) (l : Str) (w : List Str) : ends m i (l :: w) = i :: (match led1 m i l with | some j => ends m j w | none => []) := rfl
def eI (n : Nat) : PD := .int (n : Int)
theorem at_last (xs : List PD) (d : PD) : atI (xs ++ [d]) (-1) = some d := by
  unfold atI ixN
  rw [if_neg (by decide), if_pos (by simp; omega)]
  have e : (-1 + ((xs ++ [d]).length : Int)).toNat = xs.length := by simp; omega
  show (xs ++ [d])[(-1 + ((xs ++ [d]).length : Int)).toNat]? = _
  rw [e]; simp
theorem sa_loop {m : Mach} (G : Good m) (o1 : Option SV) (B : Bag) : ∀ (w : List Str) (i : Nat) (done : List Nat) (o3 : Option SV), i < m.length → (run m i w).isSome = true → done.length + w.length ≤ 900 →
    ∃ o3', mLoop (mgName 3) (mApp 2 (mCall 3 f_led (mCons (mG (mVar 0)) (mCons (mG (mIxOwn 2 (mNeg (mC (.int 1))))) (mCons (mG (mVar 3)) mNil))))) (w.map PyData.str) [some (.d (eM m)), o1, some (.own ((done ++ [i]).map eI)), o3] B = .nx [some (.d (eM m)), o1, some (.own ((done ++ ends m i w).map eI)), o3'] B
  | [], i, done, o3, hi, _, _ => ⟨o3, rfl⟩
  | l :: w, i, done, o3, hi, h, hl => by
    rw [run_cons] at h
    rw [List.length_cons] at hl
    cases q : led1 m i l with
    | none => rw [q] at h; cases h
    | some j =>
      rw [q] at h
      obtain ⟨o3', e⟩ := sa_loop G o1 B w j (done ++ [i]) (some (.d (.str l))) (led_lt G q).1 h (by simp; omega)
      have el : mIxOwn 2 (mNeg (mC (.int 1))) [some (.d (eM m)), o1, some (.own ((done ++ [i]).map eI)), some (.d (.str l))] B = .ok (eI i) B := by
        show (match atI ((done ++ [i]).map eI) (-1) with | some z => Res.ok z B | none => .bad) = _
        rw [List.map_append, List.map_singleton, at_last]
      have e1 := s_app (i := 2) (m := mCall 3 f_led (mCons (mG (mVar 0)) (mCons (mG (mIxOwn 2 (mNeg (mC (.int 1))))) (mCons (mG (mVar 3)) mNil)))) (env := [some (.d (eM m)), o1, some (.own ((done ++ [i]).map eI)), some (.d (.str l))]) (B := B) (B1 := B) (xs := (done ++ [i]).map eI) (d := optP (some j))
        (r_call (r_cons (r_g (r_var rfl)) (r_cons (r_g el) (r_cons (r_g (r_var rfl)) r_nil))) rfl (by rw [← q]; exact led_ok G hi l B)) rfl (len_lt (by simp; omega))
      refine ⟨o3', ?_⟩
      have e2 : done ++ ends m i (l :: w) = done ++ [i] ++ ends m j w := by rw [ends_cons, q]; simp
      rw [e2, ← e]
      show (match mApp 2 (mCall 3 f_led (mCons (mG (mVar 0)) (mCons (mG (mIxOwn 2 (mNeg (mC (.int 1))))) (mCons (mG (mVar 3)) mNil)))) [some (.d (eM m)), o1, some (.own ((done ++ [i]).map eI)), some (.d (.str l))] B with
        | .nx env2 B2 => mLoop (mgName 3) (mApp 2 (mCall 3 f_led (mCons (mG (mVar 0)) (mCons (mG (mIxOwn 2 (mNeg (mC (.int 1))))) (mCons (mG (mVar 3)) mNil))))) (w.map PyData.str) env2 B2
        | .ct env2 B2 => mLoop (mgName 3) (mApp 2 (mCall 3 f_led (mCons (mG (mVar 0)) (mCons (mG (mIxOwn 2 (mNeg (mC (.int 1))))) (mCons (mG (mVar 3)) mNil))))) (w.map PyData.str) env2 B2
        | .bk env2 B2 => .nx env2 B2
        | .ret d B2 => .ret d B2
        | .exc c as e2 B2 => .exc c as e2 B2
        | .bad => .bad) = _
      rw [e1]
      have e3 : (done ++ [i]).map eI ++ [optP (some j)] = ((done ++ [i]) ++ [j]).map eI := by simp [optP, eI]
      rw [e3]
      rfl
theorem s_drop {m : EnvM → Bag → Res PD} {env : EnvM} {B B1 : Bag} {d : PD} (h : m env B = .ok d B1) : mDrop m env B = .nx env B1 := by unfold mDrop; rw [h]; rfl
theorem standings_ok {m : Mach} (G : Good m) {w : List Str} (hw : ∀ x ∈ w, okS x) (hl : w.length ≤ 400) (h : (run m 0 w).isSome = true) (B : Bag) : f_standings_along [.d (eM m), .d (.tuple (w.map PyData.str))] B = .ok (.tuple ((ends m 0 w).map eI)) B := by
  have hr := is_row_ok G hw hl B
  rw [h] at hr
  obtain ⟨o3, e⟩ := sa_loop G (some (.d (.tuple (w.map PyData.str)))) B w 0 [] none (by have := G.len1; omega) h (by simp; omega)
  unfold f_standings_along b_standings_along
  exact s_fn (s_seq (s_drop (r_callE (r_cons (r_g (r_var rfl)) (r_cons (r_g (r_var rfl)) r_nil)) rfl (check_row_ok hr))) (s_seq (B1 := B) (e1 := [some (.d (eM m)), some (.d (.tuple (w.map PyData.str))), some (.own [eI 0]), none]) rfl (s_seq (s_for1 (r_seqT (r_var (x := .tuple (w.map PyData.str)) rfl)) e) (s_ret (r_ca (r_cons (r_g (r_var (x := .list ((ends m 0 w).map eI)) rfl)) r_nil) rfl)))))
theorem standings_bad {m : Mach} {d : PD} {B : Bag} (h : f_is_row [.d (eM m), .d d] B = .ok (.bool false) B) : f_standings_along [.d (eM m), .d d] B = .exc "Refused" [("why", .str "row")] B := by
  unfold f_standings_along b_standings_along mFn
  have e : mCallE 2 f_check_row (mCons (mG (mVar 0)) (mCons (mG (mVar 1)) mNil)) (env0 4 [.d (eM m), .d d]) B = .exc "Refused" [("why", .str "row")] B := r_callE (r_cons (r_g (r_var rfl)) (r_cons (r_g (r_var rfl)) r_nil)) rfl (check_row_bad h)
  unfold mSeq mDrop
  rw [e]
  rfl
end DL
set_option Elab.async false
set_option linter.all false
set_option maxRecDepth 100000
set_option maxHeartbeats 4000000
/-! QH: what is left of a row, and its turns: the program's and the law's. -/
namespace DL
open PySem L2
def eT (w : List Str) : PD := .tuple (w.map PyData.str)
def eNT (es : List Nat) : PD := .tuple (es.map eI)
def eNL (es : List Nat) : PD := .list (es.map eI)
def eG (g : List Str × List Str) : PD := .tuple [eT g.1, eT g.2]
def wk (m : Mach) : List Str → List Nat → Nat → List (List Str × List Str) → List Str → List Str × List (List Str × List Str)
  | kept, _, _, gone, [] => (kept, gone)
  | kept, pre, i, gone, l :: w => match led1 m i l with
    | none => (kept, gone)
    | some j => if j ∈ pre ++ [i] then wk m (kept.take ((pre ++ [i]).idxOf j)) ((pre ++ [i]).take ((pre ++ [i]).idxOf j)) j (gone ++ [(kept.take ((pre ++ [i]).idxOf j), kept.drop ((pre ++ [i]).idxOf j) ++ [l])]) w
      else wk m (kept ++ [l]) (pre ++ [i]) j gone w
theorem ints_all {n : Nat} (es : List Nat) : (es.map eI).all (clP n) = true := by
  rw [List.all_eq_true]
  intro d hd
  obtain ⟨x, hx, rfl⟩ := List.mem_map.mp hd
  cases n <;> rfl
theorem mem_eI {j : Nat} {es : List Nat} : eI j ∈ es.map eI ↔ j ∈ es := by
  rw [List.mem_map]
  exact ⟨fun ⟨y, h, e⟩ => by have h3 := PyData.int.inj e
                             have : y = j := by omega
                             rw [← this]; exact h, fun h => ⟨j, h, rfl⟩⟩
theorem in_intsT (j : Nat) (es : List Nat) : inAP (eI j) (eNT es) = some (decide (j ∈ es)) := by
  unfold eNT
  rw [inAP_tup (n := 0) (m := 0) (d := eI j) rfl (ints_all es)]
  exact congrArg some (decide_eq_decide.mpr mem_eI)
theorem in_intsL (j : Nat) (es : List Nat) : inAP (eI j) (eNL es) = some (decide (j ∈ es)) := by
  unfold eNL
  rw [inAP_list (n := 0) (m := 0) (d := eI j) rfl (ints_all es)]
  exact congrArg some (decide_eq_decide.mpr mem_eI)
theorem index_intsT {j : Nat} {es : List Nat} (h : j ∈ es) : indexP (eNT es) (eI j) = some (eI (es.idxOf j)) := by
  show (if _ then _ else _) = _
  rw [if_pos ⟨clP_shaped (n := 1) (d := .tuple (es.map eI)) (ints_all (n := 0) es) (by decide), clP_shaped (n := 0) (d := eI j) rfl (by decide)⟩]
  show (DL.idxOf (.int (j : Int)) (es.map fun n : Nat => PyData.int (n : Int))).map _ = _
  rw [idxOf_ints h]; rfl
theorem index_intsL {j : Nat} {es : List Nat} (h : j ∈ es) : indexP (eNL es) (eI j) = some (eI (es.idxOf j)) := by
  show (if _ then _ else _) = _
  rw [if_pos ⟨clP_shaped (n := 1) (d := .list (es.map eI)) (ints_all (n := 0) es) (by decide), clP_shaped (n := 0) (d := eI j) rfl (by decide)⟩]
  show (DL.idxOf (.int (j : Int)) (es.map fun n : Nat => PyData.int (n : Int))).map _ = _
  rw [idxOf_ints h]; rfl
theorem lastT (pre : List Nat) (i : Nat) : ixP (eNT (pre ++ [i])) (.int (-1)) = some (eI i) := by
  show atI ((pre ++ [i]).map eI) (-1) = _
  rw [List.map_append, List.map_singleton, at_last]
theorem lastL (pre : List Nat) (i : Nat) : ixP (eNL (pre ++ [i])) (.int (-1)) = some (eI i) := by
  show atI ((pre ++ [i]).map eI) (-1) = _
  rw [List.map_append, List.map_singleton, at_last]
theorem slT_lo (w : List Str) (a : Nat) : sliceP (eT w) none (some (a : Int)) = some (eT (w.take a)) := by
  show some (PyData.tuple (cutP (w.map PyData.str) none (some (a : Int)))) = _
  rw [cut_lo, ← List.map_take]; rfl
theorem slT_hi (w : List Str) (a : Nat) : sliceP (eT w) (some (a : Int)) none = some (eT (w.drop a)) := by
  show some (PyData.tuple (cutP (w.map PyData.str) (some (a : Int)) none)) = _
  rw [cut_hi, ← List.map_drop]; rfl
theorem slNT_lo (w : List Nat) (a : Nat) : sliceP (eNT w) none (some (a : Int)) = some (eNT (w.take a)) := by
  show some (PyData.tuple (cutP (w.map eI) none (some (a : Int)))) = _
  rw [cut_lo, ← List.map_take]; rfl
theorem slNL_lo (w : List Nat) (a : Nat) : sliceP (eNL w) none (some (a : Int)) = some (eNL (w.take a)) := by
  show some (PyData.list (cutP (w.map eI) none (some (a : Int)))) = _
  rw [cut_lo, ← List.map_take]; rfl
theorem take_at {j : Nat} {es : List Nat} (h : j ∈ es) : es.take (es.idxOf j + 1) = es.take (es.idxOf j) ++ [j] := by
  have hl := List.idxOf_lt_length_of_mem h
  rw [List.take_add_one, List.getElem?_eq_getElem hl]
  have : es[es.idxOf j] = j := by
    have := List.getElem_idxOf hl
    exact this
  rw [this]; rfl
section
variable {env : EnvM} {B B1 B2 : Bag} {ma : EnvM → Bag → Res PD}
theorem r_starT {r : EnvM → Bag → Res (List SV)} {ds : List PD} {xs : List SV} (h : ma env B = .ok (.tuple ds) B1) (h2 : r env B1 = .ok xs B2) : mStar ma r env B = .ok (ds.map SV.d ++ xs) B2 := by
  unfold mStar; rw [h]; simp only [Res.bind, h2]
theorem unD_append : ∀ (ds : List PD) (xs : List SV) (es : List PD), unD xs = some es → unD (ds.map SV.d ++ xs) = some (ds ++ es)
  | [], xs, es, h => h
  | d :: ds, xs, es, h => by
    have ih := unD_append ds xs es h
    rw [List.map_cons, List.cons_append]
    show (unD (ds.map SV.d ++ xs)).map (d :: ·) = _
    rw [ih]; rfl
theorem r_star1 {mb : EnvM → Bag → Res PD} {ds : List PD} {x : PD} (h : ma env B = .ok (.tuple ds) B1) (h2 : mb env B1 = .ok x B2) (hl : ds.length ≤ 900) : mTup (mStar ma (mCons (mG mb) mNil)) env B = .ok (.tuple (ds ++ [x])) B2 :=
  r_tup (r_starT h (r_cons (r_g h2) r_nil)) (unD_append ds _ _ rfl) (len_le (by simp; omega))
end
theorem star_str {ma mb : EnvM → Bag → Res PD} {env : EnvM} {B : Bag} {w : List Str} {l : Str} (h : ma env B = .ok (eT w) B) (h2 : mb env B = .ok (.str l) B) (hl : w.length ≤ 900) : mTup (mStar ma (mCons (mG mb) mNil)) env B = .ok (eT (w ++ [l])) B := by
  have e := r_star1 (ds := w.map PyData.str) h h2 (by simpa using hl)
  rw [e]
  unfold eT
  rw [List.map_append]; rfl
theorem star_int {ma mb : EnvM → Bag → Res PD} {env : EnvM} {B : Bag} {w : List Nat} {l : Nat} (h : ma env B = .ok (eNT w) B) (h2 : mb env B = .ok (eI l) B) (hl : w.length ≤ 900) : mTup (mStar ma (mCons (mG mb) mNil)) env B = .ok (eNT (w ++ [l])) B := by
  have e := r_star1 (ds := w.map eI) h h2 (by simpa using hl)
  rw [e]
  unfold eNT
  rw [List.map_append]; rfl
abbrev woB : EnvM → Bag → SRes := (mSeq (mSet (mgName 6) (mCall 3 f_led (mCons (mG (mVar 0)) (mCons (mG (mOp ixP (mVar 3) (mNeg (mC (.int 1))))) (mCons (mG (mVar 5)) mNil)))))
  (mIf (mCmp inAP (mVar 6) (mVar 3)) (mSeq (mSet (mgName 7) (mIndex (mVar 3) (mVar 6)))
  (mSeq (mApp 4 (mTup (mCons (mG (mSl (mVar 2) mNoPart (mPart (mVar 7)))) (mCons (mG (mTup (mStar (mSl (mVar 2) (mPart (mVar 7)) mNoPart) (mCons (mG (mVar 5)) mNil)))) mNil))))
  (mPar 2 3 (mCons (mG (mSl (mVar 2) mNoPart (mPart (mVar 7)))) (mCons (mG (mSl (mVar 3) mNoPart (mPart (mOp addP (mVar 7) (mC (.int 1)))))) mNil))))) (mPar 2 3 (mCons (mG (mTup (mStar (mVar 2) (mCons (mG (mVar 5)) mNil)))) (mCons (mG (mTup (mStar (mVar 3) (mCons (mG (mVar 6)) mNil)))) mNil)))))
theorem mLoop_nx {g : PD → EnvM → Option EnvM} {body : EnvM → Bag → SRes} {d : PD} {ds : List PD} {env e1 e2 : EnvM} {B B2 : Bag} (hg : g d env = some e1) (hb : body e1 B = .nx e2 B2) : mLoop g body (d :: ds) env B = mLoop g body ds e2 B2 := by
  show (match g d env with | none => SRes.bad | some env1 => _) = _
  rw [hg]
  show (match body e1 B with | .nx env2 B2 => mLoop g body ds env2 B2 | .ct env2 B2 => mLoop g body ds env2 B2 | .bk env2 B2 => .nx env2 B2 | .ret d B2 => .ret d B2 | .exc c as e2 B2 => .exc c as e2 B2 | .bad => .bad) = _
  rw [hb]
theorem wo_loop {m : Mach} (G : Good m) (o1 : Option SV) (B : Bag) : ∀ (w : List Str) (kept : List Str) (pre : List Nat) (i : Nat) (gone : List (List Str × List Str)) (o5 o6 o7 : Option SV), i < m.length → (run m i w).isSome = true →
    kept.length + pre.length + gone.length + 3 * w.length ≤ 800 →
    ∃ o3 o5' o6' o7', mLoop (mgName 5) woB (w.map PyData.str) [some (.d (eM m)), o1, some (.d (eT kept)), some (.d (eNT (pre ++ [i]))), some (.own (gone.map eG)), o5, o6, o7] B = .nx [some (.d (eM m)), o1, some (.d (eT (wk m kept pre i gone w).1)), o3, some (.own ((wk m kept pre i gone w).2.map eG)), o5', o6', o7'] B
  | [], kept, pre, i, gone, o5, o6, o7, hi, _, _ => ⟨_, o5, o6, o7, rfl⟩
  | l :: w, kept, pre, i, gone, o5, o6, o7, hi, h, hl => by
    rw [run_cons] at h
    rw [List.length_cons] at hl
    cases q : led1 m i l with
    | none => rw [q] at h; cases h
    | some j =>
      rw [q] at h
      have hj := (led_lt G q).1
      have e1 : mCall 3 f_led (mCons (mG (mVar 0)) (mCons (mG (mOp ixP (mVar 3) (mNeg (mC (.int 1))))) (mCons (mG (mVar 5)) mNil))) [some (.d (eM m)), o1, some (.d (eT kept)), some (.d (eNT (pre ++ [i]))), some (.own (gone.map eG)), some (.d (.str l)), o6, o7] B = .ok (eI j) B := by
        refine r_call (r_cons (r_g (r_var rfl)) (r_cons (r_g (r_op (r_var rfl) (r_neg r_c) (lastT pre i))) (r_cons (r_g (r_var rfl)) r_nil))) rfl ?_
        have := led_ok G hi l B
        rw [q] at this
        exact this
      rw [List.map_cons]
      by_cases c : j ∈ pre ++ [i]
      · have ew : wk m kept pre i gone (l :: w) = wk m (kept.take ((pre ++ [i]).idxOf j)) ((pre ++ [i]).take ((pre ++ [i]).idxOf j)) j (gone ++ [(kept.take ((pre ++ [i]).idxOf j), kept.drop ((pre ++ [i]).idxOf j) ++ [l])]) w := by
          show (match led1 m i l with | none => _ | some j => _) = _
          rw [q]
          exact if_pos c
        rw [ew]
        generalize ha : (pre ++ [i]).idxOf j = a
        have e2 : woB [some (.d (eM m)), o1, some (.d (eT kept)), some (.d (eNT (pre ++ [i]))), some (.own (gone.map eG)), some (.d (.str l)), o6, o7] B = .nx [some (.d (eM m)), o1, some (.d (eT (kept.take a))), some (.d (eNT ((pre ++ [i]).take a ++ [j]))), some (.own ((gone ++ [(kept.take a, kept.drop a ++ [l])]).map eG)), some (.d (.str l)), some (.d (eI j)), some (.d (eI a))] B := by
          refine s_seq (s_set e1 rfl) (s_ifT (r_cmp (r_var (x := eI j) rfl) (r_var (x := eNT (pre ++ [i])) rfl) (by rw [in_intsT, decide_eq_true c])) (s_seq (s_set (r_index (r_var (x := eNT (pre ++ [i])) rfl) rfl (r_var (x := eI j) rfl) (index_intsT c)) rfl) ?_))
          rw [ha]
          refine s_seq (s_app (d := eG (kept.take a, kept.drop a ++ [l])) (xs := gone.map eG) (B1 := B) (r_tup (r_cons (r_g (r_sl (r_var (x := eT kept) rfl) r_noPart (r_part (i := (a : Int)) (r_var rfl)) (slT_lo kept a))) (r_cons (r_g (star_str (r_sl (r_var (x := eT kept) rfl) (r_part (i := (a : Int)) (r_var rfl)) r_noPart (slT_hi kept a)) (r_var rfl) (by rw [List.length_drop]; omega))) r_nil)) rfl (show 2 ≤ sizeLine by decide)) rfl (len_lt (by rw [List.length_map]; omega))) ?_
          have e3 : mSl (mVar 3) mNoPart (mPart (mOp addP (mVar 7) (mC (.int 1)))) [some (.d (eM m)), o1, some (.d (eT kept)), some (.d (eNT (pre ++ [i]))), some (.own (gone.map eG ++ [eG (kept.take a, kept.drop a ++ [l])])), some (.d (.str l)), some (.d (eI j)), some (.d (eI a))] B = .ok (eNT ((pre ++ [i]).take a ++ [j])) B := by
            refine r_sl (r_var (x := eNT (pre ++ [i])) rfl) r_noPart (r_part (i := ((a + 1 : Nat) : Int)) (r_op (r_var (x := eI a) rfl) r_c rfl)) ?_
            rw [slNT_lo, ← ha, take_at c]
          have e4 := s_par (i := 2) (j := 3) (B := B) (B1 := B) (r_cons (r_g (r_sl (env := [some (.d (eM m)), o1, some (.d (eT kept)), some (.d (eNT (pre ++ [i]))), some (.own (gone.map eG ++ [eG (kept.take a, kept.drop a ++ [l])])), some (.d (.str l)), some (.d (eI j)), some (.d (eI a))]) (B := B) (r_var (i := 2) (x := eT kept) rfl) r_noPart (r_part (i := (a : Int)) (r_var (i := 7) rfl)) (slT_lo kept a))) (r_cons (r_g e3) r_nil))
          rw [List.map_append]
          exact e4
        rw [mLoop_nx (g := mgName 5) rfl e2]
        exact wo_loop G o1 B w _ _ j _ _ _ _ hj h (by simp only [List.length_take, List.length_append, List.length_singleton]; omega)
      · have ew : wk m kept pre i gone (l :: w) = wk m (kept ++ [l]) (pre ++ [i]) j gone w := by
          show (match led1 m i l with | none => _ | some j => _) = _
          rw [q]
          exact if_neg c
        rw [ew]
        have e2 : woB [some (.d (eM m)), o1, some (.d (eT kept)), some (.d (eNT (pre ++ [i]))), some (.own (gone.map eG)), some (.d (.str l)), o6, o7] B = .nx [some (.d (eM m)), o1, some (.d (eT (kept ++ [l]))), some (.d (eNT (pre ++ [i] ++ [j]))), some (.own (gone.map eG)), some (.d (.str l)), some (.d (eI j)), o7] B := by
          refine s_seq (s_set e1 rfl) (s_ifF (r_cmp (r_var (x := eI j) rfl) (r_var (x := eNT (pre ++ [i])) rfl) (by rw [in_intsT, decide_eq_false c])) ?_)
          exact s_par (r_cons (r_g (star_str (r_var rfl) (r_var rfl) (by omega))) (r_cons (r_g (star_int (r_var rfl) (r_var rfl) (by simp; omega))) r_nil))
        rw [mLoop_nx (g := mgName 5) rfl e2]
        exact wo_loop G o1 B w _ _ j _ _ _ _ hj h (by simp only [List.length_append, List.length_singleton]; omega)
theorem walked_out_ok {m : Mach} (G : Good m) {w : List Str} (hl : w.length ≤ 200) (h : (run m 0 w).isSome = true) (B : Bag) : f_walked_out [.d (eM m), .d (eT w)] B = .ok (.tuple [eT (wk m [] [] 0 [] w).1, .tuple ((wk m [] [] 0 [] w).2.map eG)]) B := by
  obtain ⟨o3, o5, o6, o7, e⟩ := wo_loop G (some (.d (eT w))) B w [] [] 0 [] none none none (by have := G.len1; omega) h (by simp; omega)
  unfold f_walked_out b_walked_out
  refine s_fn (s_seq (B1 := B) (e1 := [some (.d (eM m)), some (.d (eT w)), some (.d (eT [])), some (.d (eNT ([] ++ [0]))), some (.own []), none, none, none]) rfl (s_seq (s_for1 (r_seqT (r_var (x := eT w) rfl)) e) (s_ret (r_tup (r_cons (r_g (r_var (x := eT (wk m [] [] 0 [] w).1) rfl)) (r_cons (r_g (r_ca (r_cons (r_g (r_var (x := .list ((wk m [] [] 0 [] w).2.map eG)) rfl)) r_nil) rfl)) r_nil)) rfl (show 2 ≤ sizeLine by decide)))))
theorem add_str {ma mb : EnvM → Bag → Res PD} {env : EnvM} {B : Bag} {w : List Str} {l : Str} (h : ma env B = .ok (eT w) B) (h2 : mb env B = .ok (.str l) B) (hl : w.length ≤ 900) : mOp addP ma (mTup (mCons (mG mb) mNil)) env B = .ok (eT (w ++ [l])) B := by
  refine r_op h (r_tup (r_cons (r_g h2) r_nil) rfl (show 1 ≤ sizeLine by decide)) ?_
  show addP (.tuple (w.map PyData.str)) (.tuple [.str l]) = _
  rw [addP_tuple (by simp; omega)]
  unfold eT
  rw [List.map_append]; rfl
theorem add_int {ma mb : EnvM → Bag → Res PD} {env : EnvM} {B : Bag} {w : List Nat} {l : Nat} (h : ma env B = .ok (eNL w) B) (h2 : mb env B = .ok (eI l) B) (hl : w.length ≤ 900) : mOp addP ma (mLst (mCons (mG mb) mNil)) env B = .ok (eNL (w ++ [l])) B := by
  refine r_op h (r_lst (r_cons (r_g h2) r_nil) rfl (show 1 ≤ sizeLine by decide)) ?_
  show addP (.list (w.map eI)) (.list [eI l]) = _
  rw [addP_list (by simp; omega)]
  unfold eNL
  rw [List.map_append]; rfl
end DL
set_option Elab.async false
set_option linter.all false
set_option maxRecDepth 100000
set_option maxHeartbeats 4000000
/-! QI: the law's turns; left_out, turns_in, next_left, is_short. -/
namespace DL
open PySem L2
theorem left_out_ok {m : Mach} (G : Good m) {w : List Str} (hw : ∀ x ∈ w, okS x) (hl : w.length ≤ 200) (h : (run m 0 w).isSome = true) (B : Bag) : f_left_out [.d (eM m), .d (eT w)] B = .ok (eT (wk m [] [] 0 [] w).1) B := by
  have hr := is_row_ok G hw (by omega) B
  rw [h] at hr
  unfold f_left_out b_left_out
  exact s_fn (s_seq (s_drop (r_callE (r_cons (r_g (r_var rfl)) (r_cons (r_g (r_var rfl)) r_nil)) rfl (check_row_ok hr))) (s_ret (r_op (r_call (r_cons (r_g (r_var rfl)) (r_cons (r_g (r_var rfl)) r_nil)) rfl (walked_out_ok G hl h B)) r_c (atI0 _ _))))
theorem turns_in_ok {m : Mach} (G : Good m) {w : List Str} (hw : ∀ x ∈ w, okS x) (hl : w.length ≤ 200) (h : (run m 0 w).isSome = true) (B : Bag) : f_turns_in [.d (eM m), .d (eT w)] B = .ok (.tuple ((wk m [] [] 0 [] w).2.map eG)) B := by
  have hr := is_row_ok G hw (by omega) B
  rw [h] at hr
  unfold f_turns_in b_turns_in
  exact s_fn (s_seq (s_drop (r_callE (r_cons (r_g (r_var rfl)) (r_cons (r_g (r_var rfl)) r_nil)) rfl (check_row_ok hr))) (s_ret (r_op (r_call (r_cons (r_g (r_var rfl)) (r_cons (r_g (r_var rfl)) r_nil)) rfl (walked_out_ok G hl h B)) r_c (atI_nat' (j := 1) rfl))))
theorem left_out_bad {m : Mach} {d : PD} {B : Bag} (h : f_is_row [.d (eM m), .d d] B = .ok (.bool false) B) : f_left_out [.d (eM m), .d d] B = .exc "Refused" [("why", .str "row")] B := by
  unfold f_left_out b_left_out mFn
  have e : mCallE 2 f_check_row (mCons (mG (mVar 0)) (mCons (mG (mVar 1)) mNil)) (env0 2 [.d (eM m), .d d]) B = .exc "Refused" [("why", .str "row")] B := r_callE (r_cons (r_g (r_var rfl)) (r_cons (r_g (r_var rfl)) r_nil)) rfl (check_row_bad h)
  unfold mSeq mDrop
  rw [e]
  rfl
theorem turns_in_bad {m : Mach} {d : PD} {B : Bag} (h : f_is_row [.d (eM m), .d d] B = .ok (.bool false) B) : f_turns_in [.d (eM m), .d d] B = .exc "Refused" [("why", .str "row")] B := by
  unfold f_turns_in b_turns_in mFn
  have e : mCallE 2 f_check_row (mCons (mG (mVar 0)) (mCons (mG (mVar 1)) mNil)) (env0 2 [.d (eM m), .d d]) B = .exc "Refused" [("why", .str "row")] B := r_callE (r_cons (r_g (r_var rfl)) (r_cons (r_g (r_var rfl)) r_nil)) rfl (check_row_bad h)
  unfold mSeq mDrop
  rw [e]
  rfl
/-- what next_left tells -/
def nextL (m : Mach) (s : List Str) (l : Str) : PD := if (run m 0 (s ++ [l])).isSome = true then eT (wk m [] [] 0 [] (s ++ [l])).1 else .none
theorem next_left_ok {m : Mach} (G : Good m) {s : List Str} {l : Str} (hs : ∀ x ∈ s, okS x) (hl : okS l) (hn : s.length ≤ 100) (B : Bag) : f_next_left [.d (eM m), .d (eT s), .d (.str l)] B = .ok (nextL m s l) B := by
  have hw : ∀ x ∈ s ++ [l], okS x := by
    intro x hx
    rcases List.mem_append.mp hx with h | h
    · exact hs x h
    · rw [List.mem_singleton] at h; rw [h]; exact hl
  have hlen : (s ++ [l]).length ≤ 200 := by simp; omega
  have e1 : mTup (mStar (mVar 1) (mCons (mG (mVar 2)) mNil)) [some (.d (eM m)), some (.d (eT s)), some (.d (.str l))] B = .ok (eT (s ++ [l])) B := star_str (r_var rfl) (r_var rfl) (by omega)
  have hr := is_row_ok G hw (by omega) B
  unfold f_next_left b_next_left nextL
  cases c : (run m 0 (s ++ [l])).isSome with
  | true =>
    rw [c] at hr
    exact s_fn (s_ret (r_ifT (r_truB (r_call (r_cons (r_g (r_var rfl)) (r_cons (r_g e1) r_nil)) rfl hr)) (r_callE (r_cons (r_g (r_var rfl)) (r_cons (r_g e1) r_nil)) rfl (left_out_ok G hw hlen c B))))
  | false =>
    rw [c] at hr
    exact s_fn (s_ret (r_ifF (r_truB (r_call (r_cons (r_g (r_var rfl)) (r_cons (r_g e1) r_nil)) rfl hr)) r_c))
theorem keysP_ints : ∀ es : List Nat, keysP (es.map eI) = some (es.map fun n : Nat => (Sum.inl (n : Int) : Key))
  | [] => rfl
  | n :: r => by rw [List.map_cons]; unfold keysP; rw [keysP_ints r]; rfl
theorem foldK_full {α : Type} [DecidableEq α] : ∀ (ks l : List α), (ks.foldl addK l).length = l.length + ks.length → l.Nodup → (l ++ ks).Nodup
  | [], l, _, h => by rw [List.append_nil]; exact h
  | k :: ks, l, h, hn => by
    rw [List.foldl_cons] at h
    by_cases c : k ∈ l
    · have : addK l k = l := if_pos c
      rw [this] at h
      have := foldK_len ks l
      rw [List.length_cons] at h; omega
    · have e : addK l k = l ++ [k] := if_neg c
      rw [e] at h
      have h2 := foldK_full ks (l ++ [k]) (by rw [h]; simp; omega) (by rw [← e]; exact addK_nodup hn)
      simpa using h2
theorem foldK_nd {α : Type} [DecidableEq α] : ∀ (ks l : List α), (l ++ ks).Nodup → ks.foldl addK l = l ++ ks
  | [], l, _ => by rw [List.append_nil]; rfl
  | k :: ks, l, h => by
    have c : k ∉ l := by
      have := (List.nodup_append.mp h).2.2
      exact fun z => this k z k List.mem_cons_self rfl
    have e : addK l k = l ++ [k] := if_neg c
    rw [List.foldl_cons, e, foldK_nd ks (l ++ [k]) (by simpa using h)]
    simp
theorem is_short_ok {m : Mach} (G : Good m) {w : List Str} (hw : ∀ x ∈ w, okS x) (hl : w.length ≤ 200) (h : (run m 0 w).isSome = true) (hlen : (ends m 0 w).length ≤ 900) (B : Bag) : f_is_short [.d (eM m), .d (eT w)] B = .ok (.bool (decide (ends m 0 w).Nodup)) B := by
  have hr := is_row_ok G hw (by omega) B
  rw [h] at hr
  unfold f_is_short b_is_short
  refine s_fn (s_seq (s_ifF (r_not (r_truB (k := true) (r_call (r_cons (r_g (r_var rfl)) (r_cons (r_g (r_var rfl)) r_nil)) rfl hr))) s_skip) (s_seq (s_set (r_callE (r_cons (r_g (r_var rfl)) (r_cons (r_g (r_var rfl)) r_nil)) rfl (standings_ok G hw (by omega) h B)) rfl) (s_ret (r_b ?_))))
  generalize ends m 0 w = es at hlen
  have e1 : mDcLen 3 (mSeqOfS (mVar 2)) [some (.d (eM m)), some (.d (eT w)), some (.d (eNT es)), none] B = .ok (.int ((dedupK (es.map fun n : Nat => (Sum.inl (n : Int) : Key))).length : Int)) B := by
    unfold mDcLen mDc
    rw [if_pos (show 3 < [some (SV.d (eM m)), some (SV.d (eT w)), some (SV.d (eNT es)), none].length from (by decide : 3 < 4)), r_seqT (r_var (x := eNT es) rfl)]
    show (match keysP (es.map eI) with | some ks => if ks.length ≤ sizeLine then _ else _ | none => _) = _
    rw [keysP_ints]
    show (if _ then _ else _) = _
    rw [if_pos (len_le (by rw [List.length_map]; omega))]
  refine r_cmp e1 (r_ca (r_cons (r_g (r_var (x := eNT es) rfl)) r_nil) (lenP_tuple _)) ?_
  rw [eqP_int]
  congr 1
  refine decide_eq_decide.mpr ⟨fun z => ?_, fun z => ?_⟩
  · have z1 : ((es.map fun n : Nat => (Sum.inl (n : Int) : Key)).foldl addK []).length = ([] : List Key).length + (es.map fun n : Nat => (Sum.inl (n : Int) : Key)).length := by
      have : (dedupK (es.map fun n : Nat => (Sum.inl (n : Int) : Key))).length = (es.map eI).length := by omega
      rw [List.length_map] at this
      simpa [dedupK] using this
    have z2 := foldK_full _ _ z1 List.nodup_nil
    rw [List.nil_append] at z2
    exact List.Pairwise.of_map _ (fun a b hab e => hab (by rw [e])) z2
  · have z2 : (es.map fun n : Nat => (Sum.inl (n : Int) : Key)).Nodup := by
      refine List.Pairwise.map _ (fun a b hab => ?_) z
      intro e
      exact hab (by have := Sum.inl.inj e; omega)
    have z3 := foldK_nd _ [] (by rw [List.nil_append]; exact z2)
    show ((List.foldl addK [] _).length : Int) = _
    rw [z3]; simp
theorem is_short_bad {m : Mach} {d : PD} {B : Bag} (h : f_is_row [.d (eM m), .d d] B = .ok (.bool false) B) : f_is_short [.d (eM m), .d d] B = .ok (.bool false) B := by
  unfold f_is_short b_is_short
  exact s_fn (s_seqR (s_ifT (r_not (r_truB (k := false) (r_call (r_cons (r_g (r_var rfl)) (r_cons (r_g (r_var rfl)) r_nil)) rfl h))) (s_ret r_c)))
end DL
set_option Elab.async false
set_option linter.all false
set_option maxRecDepth 100000
set_option maxHeartbeats 4000000
/-! QJ: paths: plain facts. -/
namespace DL
open PySem L2
theorem run_snoc {m : Mach} : ∀ {w : List Str} {i j : Nat} {l : Str}, run m i w = some j → run m i (w ++ [l]) = led1 m j l
  | w, i, j, l, h => by
    unfold run at h ⊢
    rw [List.foldl_append, h]; rfl
theorem ends_snoc {m : Mach} : ∀ {w : List Str} {i j k : Nat} {l : Str}, run m i w = some j → led1 m j l = some k → ends m i (w ++ [l]) = ends m i w ++ [k]
  | [], i, j, k, l, h, h2 => by
    cases h
    show i :: (match led1 m i l with | some j => [j] | none => []) = _
    rw [h2]; rfl
  | x :: w, i, j, k, l, h, h2 => by
    rw [run_cons] at h
    cases q : led1 m i x with
    | none => rw [q] at h; cases h
    | some i2 =>
      rw [q] at h
      rw [List.cons_append, ends_cons, ends_cons, q]
      show i :: ends m i2 (w ++ [l]) = i :: ends m i2 w ++ [k]
      rw [ends_snoc h h2]; rfl
theorem ends_last {m : Mach} : ∀ {w : List Str} {i j : Nat}, run m i w = some j → ∃ pre, ends m i w = pre ++ [j] ∧ pre.length = w.length
  | [], i, j, h => by cases h; exact ⟨[], rfl, rfl⟩
  | x :: w, i, j, h => by
    rw [run_cons] at h
    cases q : led1 m i x with
    | none => rw [q] at h; cases h
    | some i2 =>
      rw [q] at h
      obtain ⟨pre, e, hl⟩ := ends_last h
      exact ⟨i :: pre, by rw [ends_cons, q]; show i :: ends m i2 w = _; rw [e]; rfl, by simp [hl]⟩
theorem run_take {m : Mach} : ∀ {w : List Str} {i : Nat} (a : Nat), (run m i w).isSome = true → a ≤ w.length → run m i (w.take a) = (ends m i w)[a]? ∧ ends m i (w.take a) = (ends m i w).take (a + 1)
  | [], i, a, h, ha => by
    have : a = 0 := by simpa using ha
    subst this
    exact ⟨rfl, rfl⟩
  | x :: w, i, 0, h, ha => by
    rw [ends_cons]; exact ⟨rfl, rfl⟩
  | x :: w, i, a + 1, h, ha => by
    rw [run_cons] at h
    rw [List.length_cons] at ha
    cases q : led1 m i x with
    | none => rw [q] at h; cases h
    | some i2 =>
      rw [q] at h
      have ih := run_take (i := i2) a h (by omega)
      rw [List.take_succ_cons, run_cons, ends_cons, ends_cons, q]
      exact ⟨by show run m i2 (w.take a) = _; rw [ih.1]; rfl, by show i :: ends m i2 (w.take a) = _; rw [ih.2]; rfl⟩
theorem ends_lt {m : Mach} (G : Good m) : ∀ {w : List Str} {i : Nat}, i < m.length → ∀ x ∈ ends m i w, x < m.length
  | [], i, hi, x, hx => by
    have : x = i := by simpa [ends] using hx
    omega
  | l :: w, i, hi, x, hx => by
    rw [ends_cons] at hx
    rcases List.mem_cons.mp hx with rfl | hx
    · exact hi
    · cases q : led1 m i l with
      | none => rw [q] at hx; cases hx
      | some j => rw [q] at hx; exact ends_lt G (led_lt G q).1 x hx
theorem nodup_len : ∀ (n : Nat) (es : List Nat), es.Nodup → (∀ x ∈ es, x < n) → es.length ≤ n
  | 0, [], _, _ => Nat.le_refl _
  | 0, x :: r, _, h => absurd (h x List.mem_cons_self) (Nat.not_lt_zero _)
  | n + 1, es, hn, h => by
    by_cases c : n ∈ es
    · have p := List.perm_cons_erase c
      have h1 := nodup_len n (es.erase n) (hn.erase n) (fun x hx => by
        have h2 := h x (List.mem_of_mem_erase hx)
        have h3 : x ≠ n := by
          rintro rfl
          exact (hn.not_mem_erase) hx
        omega)
      have := p.length_eq
      rw [List.length_cons] at this
      omega
    · have := nodup_len n es hn (fun x hx => by
        have h2 := h x hx
        have h3 : x ≠ n := by rintro rfl; exact c hx
        omega)
      omega
/-- a path: a word that leads on, no standing twice -/
structure Pth (m : Mach) (w : List Str) (pre : List Nat) (i : Nat) : Prop where
  run : run m 0 w = some i
  ends : ends m 0 w = pre ++ [i]
  nd : (pre ++ [i]).Nodup
theorem Pth.len {m : Mach} (G : Good m) {w : List Str} {pre : List Nat} {i : Nat} (P : Pth m w pre i) : w.length = pre.length ∧ pre.length ≤ 2 ∧ i < m.length := by
  obtain ⟨pre2, e, hl⟩ := ends_last P.run
  rw [P.ends] at e
  have e2 : pre.length = pre2.length := by
    have := congrArg List.length e
    simpa using this
  have h0 : 0 < m.length := by have := G.len1; omega
  have h1 := nodup_len m.length (pre ++ [i]) P.nd (by rw [← P.ends]; exact ends_lt G h0)
  have h2 := G.len3
  have h3 := ends_lt G (w := w) h0 i (by rw [P.ends]; simp)
  rw [List.length_append, List.length_singleton] at h1
  exact ⟨by omega, by omega, h3⟩
theorem run_okS {m : Mach} (G : Good m) {w : List Str} {i : Nat} (h : (DL.run m i w).isSome = true) : ∀ x ∈ w, okS x := by
  have := run_flt G w i h
  rw [List.all_eq_true] at this
  exact fun x hx => okS_abc x (flt_abc G (of_decide_eq_true (this x hx)))
theorem Pth.okS {m : Mach} (G : Good m) {w : List Str} {pre : List Nat} {i : Nat} (P : Pth m w pre i) : ∀ x ∈ w, okS x := run_okS G (i := 0) (by rw [P.run]; rfl)
theorem Pth.nil (m : Mach) : Pth m [] [] 0 := ⟨rfl, rfl, by simp⟩
theorem Pth.snoc {m : Mach} {w : List Str} {pre : List Nat} {i j : Nat} {l : Str} (P : Pth m w pre i) (h : led1 m i l = some j) (hj : j ∉ pre ++ [i]) : Pth m (w ++ [l]) (pre ++ [i]) j :=
  ⟨(run_snoc P.run).trans h, by rw [ends_snoc P.run h, P.ends], by
    rw [List.nodup_append]
    exact ⟨P.nd, by simp, fun a ha b hb e => hj (by rw [List.mem_singleton] at hb; rw [← hb, ← e]; exact ha)⟩⟩
theorem Pth.cut {m : Mach} (G : Good m) {w : List Str} {pre : List Nat} {i j : Nat} (P : Pth m w pre i) (hj : j ∈ pre ++ [i]) : Pth m (w.take ((pre ++ [i]).idxOf j)) ((pre ++ [i]).take ((pre ++ [i]).idxOf j)) j := by
  have hl := List.idxOf_lt_length_of_mem hj
  have ln := (P.len G).1
  have t := run_take (m := m) (w := w) (i := 0) ((pre ++ [i]).idxOf j) (by rw [P.run]; rfl) (by rw [List.length_append, List.length_singleton] at hl; omega)
  rw [P.ends, take_at hj] at t
  refine ⟨?_, t.2, ?_⟩
  · rw [t.1, List.getElem?_eq_getElem hl, List.getElem_idxOf hl]
  · rw [← take_at hj]
    exact P.nd.sublist (List.take_sublist _ _)
/-- a first turn -/
def FT (m : Mach) (g : List Str × List Str) : Prop := ∃ w pre i l j, Pth m w pre i ∧ (l, j) ∈ mv m i ∧ j ∈ pre ++ [i] ∧ g = (w.take ((pre ++ [i]).idxOf j), w.drop ((pre ++ [i]).idxOf j) ++ [l])
def sumL (gs : List (List Str × List Str)) : Nat := (gs.map fun g => g.2.length).sum
theorem wk_ok {m : Mach} (G : Good m) : ∀ (w : List Str) (kept : List Str) (pre : List Nat) (i : Nat) (gone : List (List Str × List Str)), Pth m kept pre i → (∀ g ∈ gone, FT m g) → (run m i w).isSome = true →
    (∃ pre' i', Pth m (wk m kept pre i gone w).1 pre' i' ∧ run m i w = some i') ∧ (∀ g ∈ (wk m kept pre i gone w).2, FT m g) ∧ (wk m kept pre i gone w).1.length + sumL (wk m kept pre i gone w).2 = kept.length + sumL gone + w.length
  | [], kept, pre, i, gone, P, hg, _ => ⟨⟨pre, i, P, rfl⟩, hg, rfl⟩
  | l :: w, kept, pre, i, gone, P, hg, h => by
    rw [run_cons] at h ⊢
    cases q : led1 m i l with
    | none => rw [q] at h; cases h
    | some j =>
      rw [q] at h
      by_cases c : j ∈ pre ++ [i]
      · have ew : wk m kept pre i gone (l :: w) = wk m (kept.take ((pre ++ [i]).idxOf j)) ((pre ++ [i]).take ((pre ++ [i]).idxOf j)) j (gone ++ [(kept.take ((pre ++ [i]).idxOf j), kept.drop ((pre ++ [i]).idxOf j) ++ [l])]) w := by
          show (match led1 m i l with | none => _ | some j => _) = _
          rw [q]
          exact if_pos c
        rw [ew]
        have ih := wk_ok G w _ _ j (gone ++ [(kept.take ((pre ++ [i]).idxOf j), kept.drop ((pre ++ [i]).idxOf j) ++ [l])]) (P.cut G c) (fun g hm => by
          rcases List.mem_append.mp hm with hm | hm
          · exact hg g hm
          · rw [List.mem_singleton] at hm
            exact ⟨kept, pre, i, l, j, P, (led_lt G q).2.2, c, hm⟩) h
        refine ⟨ih.1, ih.2.1, ih.2.2.trans ?_⟩
        have e3 : sumL (gone ++ [(kept.take ((pre ++ [i]).idxOf j), kept.drop ((pre ++ [i]).idxOf j) ++ [l])]) = sumL gone + (kept.length - (pre ++ [i]).idxOf j + 1) := by simp [sumL]
        have e4 : (l :: w).length = w.length + 1 := rfl
        rw [e3, List.length_take, e4]
        omega
      · have ew : wk m kept pre i gone (l :: w) = wk m (kept ++ [l]) (pre ++ [i]) j gone w := by
          show (match led1 m i l with | none => _ | some j => _) = _
          rw [q]
          exact if_neg c
        rw [ew]
        have ih := wk_ok G w _ _ j gone (P.snoc q c) hg h
        refine ⟨ih.1, ih.2.1, ih.2.2.trans ?_⟩
        have e3 : (kept ++ [l]).length = kept.length + 1 := by simp
        have e4 : (l :: w).length = w.length + 1 := rfl
        rw [e3, e4]
        omega
end DL
set_option Elab.async false
set_option linter.all false
set_option maxRecDepth 100000
set_option maxHeartbeats 4000000
/-! QK: short rows: the program's queue and the law's levels. -/
namespace DL
open PySem L2
abbrev Item := List Str × List Nat × Nat
def eIt (x : Item) : PD := .tuple [eT x.1, eNT (x.2.1 ++ [x.2.2])]
def kidsOf (x : Item) (ms : List (Str × Nat)) : List Item := (ms.filter fun q => decide (q.2 ∉ x.2.1 ++ [x.2.2])).map fun q => (x.1 ++ [q.1], x.2.1 ++ [x.2.2], q.2)
def kids (m : Mach) (x : Item) : List Item := kidsOf x (mv m x.2.2)
abbrev It (m : Mach) (x : Item) : Prop := Pth m x.1 x.2.1 x.2.2
theorem kids_It {m : Mach} (G : Good m) {x y : Item} (h : It m x) (hy : y ∈ kids m x) : It m y ∧ y.2.1.length = x.2.1.length + 1 := by
  unfold kids kidsOf at hy
  obtain ⟨q, hq, rfl⟩ := List.mem_map.mp hy
  obtain ⟨h1, h2⟩ := List.mem_filter.mp hq
  exact ⟨h.snoc (led_of G h1) (of_decide_eq_true h2), by simp⟩
theorem kids_len {m : Mach} (G : Good m) (x : Item) : (kids m x).length ≤ 3 := by
  unfold kids kidsOf
  rw [List.length_map]
  exact Nat.le_trans (List.length_filter_le _ _) (mv_len G _)
theorem kidss_len {m : Mach} (G : Good m) : ∀ q : List Item, (q.flatMap (kids m)).length ≤ 3 * q.length
  | [] => by simp
  | x :: q => by
    have := kidss_len G q
    have := kids_len G x
    rw [List.flatMap_cons, List.length_append, List.length_cons]; omega
def rowsB (m : Mach) : Nat → List Item → List (List Str)
  | 0, _ => []
  | n + 1, q => (q.flatMap (kids m)).map (·.1) ++ rowsB m n (q.flatMap (kids m))
def lvl (m : Mach) : Nat → List Item → List Item
  | 0, q => q
  | n + 1, q => lvl m n (q.flatMap (kids m))
theorem lvl_It {m : Mach} (G : Good m) : ∀ (n k : Nat) (q : List Item), (∀ x ∈ q, It m x ∧ x.2.1.length = k) → ∀ x ∈ lvl m n q, It m x ∧ x.2.1.length = k + n
  | 0, k, q, h, x, hx => h x hx
  | n + 1, k, q, h, x, hx => by
    have := lvl_It G n (k + 1) (q.flatMap (kids m)) (fun y hy => by
      obtain ⟨z, hz, hy⟩ := List.mem_flatMap.mp hy
      have a := kids_It G (h z hz).1 hy
      exact ⟨a.1, by rw [a.2, (h z hz).2]⟩) x hx
    exact ⟨this.1, by omega⟩
def q0 : List Item := [([], [], 0)]
theorem q0_It (m : Mach) : ∀ x ∈ q0, It m x ∧ x.2.1.length = 0 := by
  intro x hx
  unfold q0 at hx
  rw [List.mem_singleton] at hx
  subst hx
  exact ⟨Pth.nil m, rfl⟩
theorem lvl3 {m : Mach} (G : Good m) : lvl m 3 q0 = [] := by
  cases e : lvl m 3 q0 with
  | nil => rfl
  | cons x r =>
    have := lvl_It G 3 0 q0 (q0_It m) x (by rw [e]; exact List.mem_cons_self)
    have h := (this.1.len G).2.1
    omega
/-- the short rows -/
def shorts (m : Mach) : List (List Str) := [] :: rowsB m 3 q0
theorem clP_row {n : Nat} {w : List Str} (h : ∀ x ∈ w, okS x) : clP (n + 1) (eT w) = true := all_strs (n := n) h
theorem clP_item {m : Mach} (G : Good m) {x : Item} (h : It m x) : clP 2 (eIt x) = true := by
  show ([eT x.1, eNT (x.2.1 ++ [x.2.2])].all (clP 1)) = true
  rw [List.all_cons, List.all_cons, clP_row (n := 0) (h.okS G)]
  have : clP 1 (eNT (x.2.1 ++ [x.2.2])) = true := ints_all (n := 0) _
  rw [this]; rfl
theorem neP_items {m : Mach} (G : Good m) {q : List Item} (h : ∀ x ∈ q, It m x) : neP (.list (q.map eIt)) (.list []) = some (!decide (q = [])) := by
  have hc : clP 3 (.list (q.map eIt)) = true := by
    show (q.map eIt).all (clP 2) = true
    rw [List.all_eq_true]
    intro d hd
    obtain ⟨x, hx, rfl⟩ := List.mem_map.mp hd
    exact clP_item G (h x hx)
  rw [neP_cl (n := 3) (m := 1) (d := .list (q.map eIt)) (e := .list []) hc rfl]
  cases q <;> simp
abbrev srI : EnvM → Bag → SRes := (mIf (mCmp ninAP (mVar 6) (mVar 4)) (mSeq (mApp 1 (mTup (mStar (mVar 3) (mCons (mG (mVar 5)) mNil))))
  (mApp 2 (mTup (mCons (mG (mTup (mStar (mVar 3) (mCons (mG (mVar 5)) mNil)))) (mCons (mG (mTup (mStar (mVar 4) (mCons (mG (mVar 6)) mNil)))) mNil))))) mSkip)
abbrev srC : EnvM → Bag → Res Bool := mLendT 2 (mCmp neP (mVar 2) (mLst mNil))
abbrev srB : EnvM → Bag → SRes := (mSeq (mPopSet 2 (mgTup (mgCons (mgName 3) (mgCons (mgName 4) mgNil)) 2) (mC (.int 0)))
  (mFor (mSeqOfS (mCall 2 f_moves_at (mCons (mG (mVar 0)) (mCons (mG (mOp ixP (mVar 4) (mNeg (mC (.int 1))))) mNil)))) (mgTup (mgCons (mgName 5) (mgCons (mgName 6) mgNil)) 2) srI))
theorem sr_inner (m : Mach) (x : Item) (hx : x.1.length ≤ 100 ∧ x.2.1.length ≤ 100) (B : Bag) : ∀ (ms : List (Str × Nat)) (found : List (List Str)) (q : List Item) (o5 o6 : Option SV), found.length + ms.length ≤ 900 → q.length + ms.length ≤ 900 →
    ∃ p5 p6, mLoop (mgTup (mgCons (mgName 5) (mgCons (mgName 6) mgNil)) 2) srI (ms.map eMI) [some (.d (eM m)), some (.own (found.map eT)), some (.own (q.map eIt)), some (.d (eT x.1)), some (.d (eNT (x.2.1 ++ [x.2.2]))), o5, o6] B =
      .nx [some (.d (eM m)), some (.own ((found ++ (kidsOf x ms).map (·.1)).map eT)), some (.own ((q ++ kidsOf x ms).map eIt)), some (.d (eT x.1)), some (.d (eNT (x.2.1 ++ [x.2.2]))), p5, p6] B
  | [], found, q, o5, o6, _, _ => ⟨o5, o6, by simp only [kidsOf, List.filter_nil, List.map_nil, List.append_nil]; rfl⟩
  | c :: ms, found, q, o5, o6, hf, hq => by
    rw [List.length_cons] at hf hq
    rw [List.map_cons]
    have lx : (x.2.1 ++ [x.2.2]).length ≤ 101 := by simp; omega
    by_cases h : c.2 ∈ x.2.1 ++ [x.2.2]
    · have ek : kidsOf x (c :: ms) = kidsOf x ms := by unfold kidsOf; rw [List.filter_cons, if_neg (by simp only [decide_eq_true_eq]; exact fun z => z h)]
      obtain ⟨p5, p6, e⟩ := sr_inner m x hx B ms found q (some (.d (.str c.1))) (some (.d (eI c.2))) (by omega) (by omega)
      refine ⟨p5, p6, ?_⟩
      rw [ek, ← e]
      exact mLoop_nx (e1 := [some (.d (eM m)), some (.own (found.map eT)), some (.own (q.map eIt)), some (.d (eT x.1)), some (.d (eNT (x.2.1 ++ [x.2.2]))), some (.d (.str c.1)), some (.d (eI c.2))]) rfl (s_ifF (r_cmp (r_var (x := eI c.2) rfl) (r_var (x := eNT (x.2.1 ++ [x.2.2])) rfl) (by rw [ninAP_of (in_intsT _ _), decide_eq_true h]; rfl)) s_skip)
    · have ek : kidsOf x (c :: ms) = (x.1 ++ [c.1], x.2.1 ++ [x.2.2], c.2) :: kidsOf x ms := by unfold kidsOf; rw [List.filter_cons, if_pos (by simp only [decide_eq_true_eq]; exact h)]; rfl
      obtain ⟨p5, p6, e⟩ := sr_inner m x hx B ms (found ++ [x.1 ++ [c.1]]) (q ++ [(x.1 ++ [c.1], x.2.1 ++ [x.2.2], c.2)]) (some (.d (.str c.1))) (some (.d (eI c.2))) (by simp; omega) (by simp; omega)
      refine ⟨p5, p6, ?_⟩
      have e3 : found ++ (kidsOf x (c :: ms)).map (·.1) = found ++ [x.1 ++ [c.1]] ++ (kidsOf x ms).map (·.1) := by rw [ek]; simp
      have e4 : q ++ kidsOf x (c :: ms) = q ++ [(x.1 ++ [c.1], x.2.1 ++ [x.2.2], c.2)] ++ kidsOf x ms := by rw [ek]; simp
      rw [e3, e4, ← e]
      refine mLoop_nx (e1 := [some (.d (eM m)), some (.own (found.map eT)), some (.own (q.map eIt)), some (.d (eT x.1)), some (.d (eNT (x.2.1 ++ [x.2.2]))), some (.d (.str c.1)), some (.d (eI c.2))]) rfl (s_ifT (r_cmp (r_var (x := eI c.2) rfl) (r_var (x := eNT (x.2.1 ++ [x.2.2])) rfl) (by rw [ninAP_of (in_intsT _ _), decide_eq_false h]; rfl)) ?_)
      refine s_seq (s_app (d := eT (x.1 ++ [c.1])) (xs := found.map eT) (B1 := B) (star_str (r_var rfl) (r_var rfl) (by omega)) rfl (len_lt (by rw [List.length_map]; omega))) ?_
      have e5 := s_app (i := 2) (env := [some (.d (eM m)), some (.own (found.map eT ++ [eT (x.1 ++ [c.1])])), some (.own (q.map eIt)), some (.d (eT x.1)), some (.d (eNT (x.2.1 ++ [x.2.2]))), some (.d (.str c.1)), some (.d (eI c.2))]) (B := B) (B1 := B) (d := eIt (x.1 ++ [c.1], x.2.1 ++ [x.2.2], c.2)) (xs := q.map eIt)
        (m := mTup (mCons (mG (mTup (mStar (mVar 3) (mCons (mG (mVar 5)) mNil)))) (mCons (mG (mTup (mStar (mVar 4) (mCons (mG (mVar 6)) mNil)))) mNil)))
        (r_tup (r_cons (r_g (star_str (r_var (i := 3) (x := eT x.1) rfl) (r_var (i := 5) rfl) (by omega))) (r_cons (r_g (star_int (r_var (i := 4) (x := eNT (x.2.1 ++ [x.2.2])) rfl) (r_var (i := 6) (x := eI c.2) rfl) (by omega))) r_nil)) rfl (show 2 ≤ sizeLine by decide)) rfl (len_lt (by rw [List.length_map]; omega))
      rw [List.map_append, List.map_append]
      exact e5
def RunP (m : Mach) (B : Bag) (found : List (List Str)) (q : List Item) (F : List (List Str)) : Prop := ∀ o3 o4 o5 o6 : Option SV, ∃ p3 p4 p5 p6 : Option SV,
  mWhile srC srB [some (.d (eM m)), some (.own (found.map eT)), some (.own (q.map eIt)), o3, o4, o5, o6] B = .nx [some (.d (eM m)), some (.own (F.map eT)), some (.own []), p3, p4, p5, p6] B
theorem srC_ok {m : Mach} (G : Good m) {q : List Item} (h : ∀ x ∈ q, It m x) (o1 o3 o4 o5 o6 : Option SV) (B : Bag) : srC [some (.d (eM m)), o1, some (.own (q.map eIt)), o3, o4, o5, o6] B = .ok (!decide (q = [])) B := by
  have e : mCmp neP (mVar 2) (mLst mNil) [some (.d (eM m)), o1, some (.d (.list (q.map eIt))), o3, o4, o5, o6] B = .ok (!decide (q = [])) B :=
    r_cmp (r_var rfl) (r_lst r_nil rfl (by decide)) (neP_items G h)
  show (match mCmp neP (mVar 2) (mLst mNil) [some (.d (eM m)), o1, some (.d (.list (q.map eIt))), o3, o4, o5, o6] B with | .ok d B1 => Res.ok d B1 | _ => .bad) = _
  rw [e]
theorem runP_nil {m : Mach} (G : Good m) (B : Bag) (F : List (List Str)) : RunP m B F [] F := fun o3 o4 o5 o6 => ⟨o3, o4, o5, o6, wh_end (srC_ok G (q := []) (fun x hx => by cases hx) _ _ _ _ _ B)⟩
theorem runP_step {m : Mach} (G : Good m) {B : Bag} {found : List (List Str)} {x : Item} {q : List Item} {F : List (List Str)} (hx : It m x) (hq : ∀ y ∈ q, It m y) (hf : found.length ≤ 800) (hl : q.length ≤ 800)
    (h : RunP m B (found ++ (kids m x).map (·.1)) (q ++ kids m x) F) : RunP m B found (x :: q) F := by
  intro o3 o4 o5 o6
  have ml := mv_len G x.2.2
  have L := hx.len G
  obtain ⟨a5, a6, e1⟩ := sr_inner m x ⟨by omega, by omega⟩ B (mv m x.2.2) found q o5 o6 (by omega) (by omega)
  obtain ⟨p3, p4, p5, p6, e2⟩ := h (some (.d (eT x.1))) (some (.d (eNT (x.2.1 ++ [x.2.2])))) a5 a6
  refine ⟨p3, p4, p5, p6, ?_⟩
  have hc := srC_ok G (q := x :: q) (fun y hy => (List.mem_cons.mp hy).elim (fun e => e ▸ hx) (hq y)) (some (.own (found.map eT))) o3 o4 o5 o6 B
  refine wh_turn hc ?_ e2
  refine s_seq (B1 := B) (e1 := [some (.d (eM m)), some (.own (found.map eT)), some (.own (q.map eIt)), some (.d (eT x.1)), some (.d (eNT (x.2.1 ++ [x.2.2]))), o5, o6]) rfl ?_
  exact s_for1 (r_seqT (r_call (r_cons (r_g (r_var rfl)) (r_cons (r_g (r_op (r_var rfl) (r_neg r_c) (lastT _ _))) r_nil)) rfl (moves_at_ok G L.2.2 B))) e1
theorem runP_level {m : Mach} (G : Good m) {B : Bag} {F : List (List Str)} : ∀ (q r : List Item) (found : List (List Str)), (∀ y ∈ q, It m y) → (∀ y ∈ r, It m y) → found.length + 3 * q.length ≤ 800 → r.length + 3 * q.length ≤ 800 →
    RunP m B (found ++ (q.flatMap (kids m)).map (·.1)) (r ++ q.flatMap (kids m)) F → RunP m B found (q ++ r) F
  | [], r, found, _, _, _, _, h => by simpa using h
  | x :: q, r, found, hq, hr, hf, hl, h => by
    rw [List.length_cons] at hf hl
    have kl := kids_len G x
    have hx := hq x List.mem_cons_self
    rw [List.cons_append]
    refine runP_step G hx (fun y hy => (List.mem_append.mp hy).elim (fun z => hq y (List.mem_cons_of_mem _ z)) (hr y)) (by omega) (by rw [List.length_append]; omega) ?_
    rw [List.append_assoc]
    refine runP_level G q (r ++ kids m x) (found ++ (kids m x).map (·.1)) (fun y hy => hq y (List.mem_cons_of_mem _ hy)) (fun y hy => (List.mem_append.mp hy).elim (hr y) fun z => (kids_It G hx z).1) (by rw [List.length_append, List.length_map]; omega) (by rw [List.length_append]; omega) ?_
    rw [List.flatMap_cons, List.map_append] at h
    rw [List.append_assoc, List.append_assoc]
    exact h
theorem kidss_It {m : Mach} (G : Good m) {q : List Item} (h : ∀ y ∈ q, It m y) : ∀ y ∈ q.flatMap (kids m), It m y := by
  intro y hy
  obtain ⟨x, hx, hy⟩ := List.mem_flatMap.mp hy
  exact (kids_It G (h x hx) hy).1
theorem grow {f a b t : Nat} (h : f + a * (t * 4) ≤ 800) (hb : b ≤ 3 * a) (ht : 4 ≤ t) : f + 3 * a + b * t ≤ 800 ∧ f + 3 * a ≤ 800 ∧ 3 * a ≤ 800 := by
  have h1 : b * t ≤ 3 * a * t := Nat.mul_le_mul_right t hb
  have h2 : a * (t * 4) = 3 * a * t + a * t := by
    have e4 : 4 * a = 3 * a + a := by omega
    rw [Nat.mul_comm t 4, ← Nat.mul_assoc, Nat.mul_comm a 4, e4, Nat.add_mul]
  have h3 : a * 4 ≤ a * t := Nat.mul_le_mul_left a ht
  omega
theorem runP_all {m : Mach} (G : Good m) {B : Bag} : ∀ (n : Nat) (q : List Item) (found : List (List Str)), (∀ y ∈ q, It m y) → lvl m n q = [] → found.length + q.length * 4 ^ (n + 1) ≤ 800 → RunP m B found q (found ++ rowsB m n q)
  | 0, q, found, hq, h, _ => by
    have h : q = [] := h
    subst h
    have e : found ++ rowsB m 0 [] = found := by simp [rowsB]
    rw [e]
    exact runP_nil G B found
  | n + 1, q, found, hq, h, hb => by
    have kl := kidss_len G q
    have g := grow (t := 4 ^ (n + 1)) (by rw [← Nat.pow_succ]; exact hb) kl (by have := Nat.pow_le_pow_right (n := 4) (by decide) (show 1 ≤ n + 1 by omega); simpa using this)
    have ih := runP_all G (B := B) n (q.flatMap (kids m)) (found ++ (q.flatMap (kids m)).map (·.1)) (kidss_It G hq) h (by rw [List.length_append, List.length_map]; omega)
    have := runP_level G (B := B) q [] found hq (fun y hy => by cases hy) (by omega) (by simp; omega) (by rw [List.nil_append]; exact ih)
    rw [List.append_nil, List.append_assoc] at this
    exact this
theorem short_rows_ok {m : Mach} (G : Good m) (B : Bag) : f_short_rows [.d (eM m)] B = .ok (.tuple ((shorts m).map eT)) B := by
  obtain ⟨p3, p4, p5, p6, e⟩ := runP_all G (B := B) 3 q0 [[]] (fun y hy => (q0_It m y hy).1) (lvl3 G) (by decide) none none none none
  unfold f_short_rows b_short_rows
  exact s_fn (s_seq (B1 := B) (e1 := [some (.d (eM m)), some (.own ([[]].map eT)), some (.own (q0.map eIt)), none, none, none, none]) rfl (s_seq e (s_ret (r_ca (r_cons (r_g (r_var (x := .list ((shorts m).map eT)) rfl)) r_nil) rfl))))
end DL
set_option Elab.async false
set_option linter.all false
set_option maxRecDepth 100000
set_option maxHeartbeats 4000000
/-! QL: the law's short rows; which rows are short. -/
namespace DL
open PySem L2
theorem add_intT {ma mb : EnvM → Bag → Res PD} {env : EnvM} {B : Bag} {w : List Nat} {l : Nat} (h : ma env B = .ok (eNT w) B) (h2 : mb env B = .ok (eI l) B) (hl : w.length ≤ 900) : mOp addP ma (mTup (mCons (mG mb) mNil)) env B = .ok (eNT (w ++ [l])) B := by
  refine r_op h (r_tup (r_cons (r_g h2) r_nil) rfl (show 1 ≤ sizeLine by decide)) ?_
  show addP (.tuple (w.map eI)) (.tuple [eI l]) = _
  rw [addP_tuple (by simp; omega)]
  unfold eNT
  rw [List.map_append]; rfl
def eL (q : List Item) : PD := .list (q.map eIt)
theorem addP_items {q r : List Item} (h : q.length + r.length ≤ 1000) : addP (eL q) (eL r) = some (eL (q ++ r)) := by
  unfold eL
  rw [addP_list (by simpa using h), List.map_append]
abbrev lrI : EnvM → Bag → SRes := (mSet (mgName 3) (mOp addP (mVar 3) (mIfE (mCmp ninAP (mVar 7) (mVar 5)) (mLst (mCons (mG (mTup (mCons (mG (mOp addP (mVar 4) (mTup (mCons (mG (mVar 6)) mNil)))) (mCons (mG (mOp addP (mVar 5) (mTup (mCons (mG (mVar 7)) mNil)))) mNil)))) mNil)) (mLst mNil))))
abbrev lrM : EnvM → Bag → SRes := (mSeq (mApp 1 (mVar 4))
  (mFor (mSeqOfS (mCall 2 f__law_moves (mCons (mG (mVar 0)) (mCons (mG (mOp ixP (mVar 5) (mNeg (mC (.int 1))))) mNil)))) (mgTup (mgCons (mgName 6) (mgCons (mgName 7) mgNil)) 2) lrI))
abbrev lrC : EnvM → Bag → Res Bool := (mCmp neP (mVar 2) (mLst mNil))
abbrev lrB : EnvM → Bag → SRes := (mSeq (mSet (mgName 3) (mLst mNil))
  (mSeq (mFor (mSeqOfS (mVar 2)) (mgTup (mgCons (mgName 4) (mgCons (mgName 5) mgNil)) 2) lrM)
  (mSet (mgName 2) (mVar 3))))
theorem lr_inner (m : Mach) (x : Item) (hx : x.1.length ≤ 100 ∧ x.2.1.length ≤ 100) (o1 o2 : Option SV) (B : Bag) : ∀ (ms : List (Str × Nat)) (q : List Item) (o6 o7 : Option SV), q.length + ms.length ≤ 900 →
    ∃ p6 p7, mLoop (mgTup (mgCons (mgName 6) (mgCons (mgName 7) mgNil)) 2) lrI (ms.map eMI) [some (.d (eM m)), o1, o2, some (.d (eL q)), some (.d (eT x.1)), some (.d (eNT (x.2.1 ++ [x.2.2]))), o6, o7] B =
      .nx [some (.d (eM m)), o1, o2, some (.d (eL (q ++ kidsOf x ms))), some (.d (eT x.1)), some (.d (eNT (x.2.1 ++ [x.2.2]))), p6, p7] B
  | [], q, o6, o7, _ => ⟨o6, o7, by simp only [kidsOf, List.filter_nil, List.map_nil, List.append_nil]; rfl⟩
  | c :: ms, q, o6, o7, hq => by
    rw [List.length_cons] at hq
    rw [List.map_cons]
    have lx : (x.2.1 ++ [x.2.2]).length ≤ 101 := by simp; omega
    by_cases h : c.2 ∈ x.2.1 ++ [x.2.2]
    · have ek : kidsOf x (c :: ms) = kidsOf x ms := by unfold kidsOf; rw [List.filter_cons, if_neg (by simp only [decide_eq_true_eq]; exact fun z => z h)]
      obtain ⟨p6, p7, e⟩ := lr_inner m x hx o1 o2 B ms q (some (.d (.str c.1))) (some (.d (eI c.2))) (by omega)
      refine ⟨p6, p7, ?_⟩
      rw [ek, ← e]
      refine mLoop_nx (e1 := [some (.d (eM m)), o1, o2, some (.d (eL q)), some (.d (eT x.1)), some (.d (eNT (x.2.1 ++ [x.2.2]))), some (.d (.str c.1)), some (.d (eI c.2))]) rfl (s_set (x := eL q) (B1 := B) (r_op (y := eL []) (r_var (x := eL q) rfl) (r_ifF (r_cmp (r_var (x := eI c.2) rfl) (r_var (x := eNT (x.2.1 ++ [x.2.2])) rfl) (by rw [ninAP_of (in_intsT _ _), decide_eq_true h]; rfl)) (r_lst r_nil rfl (by decide))) ?_) rfl)
      rw [addP_items (by simp; omega), List.append_nil]
    · have ek : kidsOf x (c :: ms) = (x.1 ++ [c.1], x.2.1 ++ [x.2.2], c.2) :: kidsOf x ms := by unfold kidsOf; rw [List.filter_cons, if_pos (by simp only [decide_eq_true_eq]; exact h)]; rfl
      obtain ⟨p6, p7, e⟩ := lr_inner m x hx o1 o2 B ms (q ++ [(x.1 ++ [c.1], x.2.1 ++ [x.2.2], c.2)]) (some (.d (.str c.1))) (some (.d (eI c.2))) (by simp; omega)
      refine ⟨p6, p7, ?_⟩
      have e4 : q ++ kidsOf x (c :: ms) = q ++ [(x.1 ++ [c.1], x.2.1 ++ [x.2.2], c.2)] ++ kidsOf x ms := by rw [ek]; simp
      rw [e4, ← e]
      refine mLoop_nx (e1 := [some (.d (eM m)), o1, o2, some (.d (eL q)), some (.d (eT x.1)), some (.d (eNT (x.2.1 ++ [x.2.2]))), some (.d (.str c.1)), some (.d (eI c.2))]) rfl (s_set (x := eL (q ++ [(x.1 ++ [c.1], x.2.1 ++ [x.2.2], c.2)])) (B1 := B) (r_op (y := eL [(x.1 ++ [c.1], x.2.1 ++ [x.2.2], c.2)]) (r_var (x := eL q) rfl) (r_ifT (r_cmp (r_var (x := eI c.2) rfl) (r_var (x := eNT (x.2.1 ++ [x.2.2])) rfl) (by rw [ninAP_of (in_intsT _ _), decide_eq_false h]; rfl)) ?_) (addP_items (by simp; omega))) rfl)
      exact r_lst (r_cons (r_g (r_tup (r_cons (r_g (add_str (r_var (x := eT x.1) rfl) (r_var rfl) (by omega))) (r_cons (r_g (add_intT (r_var (x := eNT (x.2.1 ++ [x.2.2])) rfl) (r_var (x := eI c.2) rfl) (by omega))) r_nil)) rfl (show 2 ≤ sizeLine by decide))) r_nil) rfl (show 1 ≤ sizeLine by decide)
theorem lr_middle {m : Mach} (G : Good m) (o2 : Option SV) (B : Bag) : ∀ (q : List Item) (found : List (List Str)) (later : List Item) (o4 o5 o6 o7 : Option SV), (∀ x ∈ q, It m x) → found.length + q.length ≤ 800 → later.length + 3 * q.length ≤ 800 →
    ∃ p4 p5 p6 p7, mLoop (mgTup (mgCons (mgName 4) (mgCons (mgName 5) mgNil)) 2) lrM (q.map eIt) [some (.d (eM m)), some (.own (found.map eT)), o2, some (.d (eL later)), o4, o5, o6, o7] B =
      .nx [some (.d (eM m)), some (.own ((found ++ q.map (·.1)).map eT)), o2, some (.d (eL (later ++ q.flatMap (kids m)))), p4, p5, p6, p7] B
  | [], found, later, o4, o5, o6, o7, _, _, _ => ⟨o4, o5, o6, o7, by simp only [List.map_nil, List.append_nil, List.flatMap_nil]; rfl⟩
  | x :: q, found, later, o4, o5, o6, o7, hq, hf, hl => by
    rw [List.length_cons] at hf hl
    have hx := hq x List.mem_cons_self
    have L := hx.len G
    have ml := mv_len G x.2.2
    have kl := kids_len G x
    obtain ⟨a6, a7, e1⟩ := lr_inner m x ⟨by omega, by omega⟩ (some (.own ((found ++ [x.1]).map eT))) o2 B (mv m x.2.2) later o6 o7 (by omega)
    obtain ⟨p4, p5, p6, p7, e2⟩ := lr_middle G o2 B q (found ++ [x.1]) (later ++ kids m x) (some (.d (eT x.1))) (some (.d (eNT (x.2.1 ++ [x.2.2])))) a6 a7 (fun y hy => hq y (List.mem_cons_of_mem _ hy)) (by simp; omega) (by rw [List.length_append]; omega)
    refine ⟨p4, p5, p6, p7, ?_⟩
    have e3 : found ++ (x :: q).map (·.1) = found ++ [x.1] ++ q.map (·.1) := by simp
    have e4 : later ++ (x :: q).flatMap (kids m) = later ++ kids m x ++ q.flatMap (kids m) := by rw [List.flatMap_cons, List.append_assoc]
    rw [e3, e4, ← e2, List.map_cons]
    refine mLoop_nx (e1 := [some (.d (eM m)), some (.own (found.map eT)), o2, some (.d (eL later)), some (.d (eT x.1)), some (.d (eNT (x.2.1 ++ [x.2.2]))), o6, o7]) rfl ?_
    refine s_seq (s_app (d := eT x.1) (xs := found.map eT) (B1 := B) (r_var rfl) rfl (len_lt (by rw [List.length_map]; omega))) ?_
    have e5 : found.map eT ++ [eT x.1] = (found ++ [x.1]).map eT := by simp
    rw [e5]
    exact s_for1 (r_seqL (r_call (r_cons (r_g (r_var rfl)) (r_cons (r_g (r_op (r_var (x := eNT (x.2.1 ++ [x.2.2])) rfl) (r_neg r_c) (lastT _ _))) r_nil)) rfl (law_moves_ok G L.2.2 B))) e1
theorem rowsB_nil (m : Mach) : ∀ n, rowsB m n [] = []
  | 0 => rfl
  | n + 1 => by show [] ++ rowsB m n [] = []; rw [rowsB_nil m n]; rfl
theorem lr_all {m : Mach} (G : Good m) (B : Bag) : ∀ (n : Nat) (q : List Item) (found : List (List Str)) (o3 o4 o5 o6 o7 : Option SV), (∀ y ∈ q, It m y) → lvl m n q = [] → found.length + q.length * 4 ^ (n + 1) ≤ 800 →
    ∃ p3 p4 p5 p6 p7, mWhile lrC lrB [some (.d (eM m)), some (.own (found.map eT)), some (.d (eL q)), o3, o4, o5, o6, o7] B = .nx [some (.d (eM m)), some (.own ((found ++ (q.map (·.1) ++ rowsB m n q)).map eT)), some (.d (eL [])), p3, p4, p5, p6, p7] B
  | 0, q, found, o3, o4, o5, o6, o7, hq, h, _ => by
    have h : q = [] := h
    subst h
    have e : found ++ (([] : List Item).map (·.1) ++ rowsB m 0 []) = found := by simp [rowsB]
    rw [e]
    exact ⟨o3, o4, o5, o6, o7, wh_end (r_cmp (r_var (x := eL []) rfl) (r_lst r_nil rfl (by decide)) (neP_items G (q := []) fun y hy => by cases hy))⟩
  | n + 1, q, found, o3, o4, o5, o6, o7, hq, h, hb => by
    have kl := kidss_len G q
    have g := grow (t := 4 ^ (n + 1)) (by rw [← Nat.pow_succ]; exact hb) kl (by have := Nat.pow_le_pow_right (n := 4) (by decide) (show 1 ≤ n + 1 by omega); simpa using this)
    by_cases c : q = []
    · subst c
      have e : found ++ (([] : List Item).map (·.1) ++ rowsB m (n + 1) []) = found := by rw [rowsB_nil]; simp
      rw [e]
      exact ⟨o3, o4, o5, o6, o7, wh_end (r_cmp (r_var (x := eL []) rfl) (r_lst r_nil rfl (by decide)) (neP_items G (q := []) fun y hy => by cases hy))⟩
    · obtain ⟨a4, a5, a6, a7, e1⟩ := lr_middle G (some (.d (eL q))) B q found [] o4 o5 o6 o7 hq (by omega) (by simp; omega)
      obtain ⟨p3, p4, p5, p6, p7, e2⟩ := lr_all G B n (q.flatMap (kids m)) (found ++ q.map (·.1)) (some (.d (eL (q.flatMap (kids m))))) a4 a5 a6 a7 (kidss_It G hq) h (by rw [List.length_append, List.length_map]; omega)
      refine ⟨p3, p4, p5, p6, p7, ?_⟩
      have e3 : found ++ (q.map (·.1) ++ rowsB m (n + 1) q) = found ++ q.map (·.1) ++ ((q.flatMap (kids m)).map (·.1) ++ rowsB m n (q.flatMap (kids m))) := by rw [List.append_assoc]; rfl
      rw [e3]
      have hc : lrC [some (.d (eM m)), some (.own (found.map eT)), some (.d (eL q)), o3, o4, o5, o6, o7] B = .ok true B := r_cmp (r_var (x := eL q) rfl) (r_lst r_nil rfl (by decide)) (by rw [show neP (eL q) (.list []) = _ from neP_items G hq, decide_eq_false c]; rfl)
      refine wh_turn hc ?_ e2
      refine s_seq (B1 := B) (e1 := [some (.d (eM m)), some (.own (found.map eT)), some (.d (eL q)), some (.d (eL [])), o4, o5, o6, o7]) rfl (s_seq (s_for1 (r_seqL (r_var (x := eL q) rfl)) e1) ?_)
      rw [List.nil_append]
      exact s_set (r_var (x := eL (q.flatMap (kids m))) rfl) rfl
theorem law_short_rows_ok {m : Mach} (G : Good m) (B : Bag) : f__law_short_rows [.d (eM m)] B = .ok (.list ((shorts m).map eT)) B := by
  obtain ⟨p3, p4, p5, p6, p7, e⟩ := lr_all G B 3 q0 [] none none none none none (fun y hy => (q0_It m y hy).1) (lvl3 G) (by decide)
  unfold f__law_short_rows b__law_short_rows
  exact s_fn (s_seq (B1 := B) (e1 := [some (.d (eM m)), some (.own (([] : List (List Str)).map eT)), some (.d (eL q0)), none, none, none, none, none]) rfl (s_seq e (s_ret (r_var (x := .list ((shorts m).map eT)) rfl))))
/-! which rows are short -/
theorem rowsB_mem {m : Mach} (w : List Str) : ∀ (n : Nat) (q : List Item), w ∈ rowsB m n q ↔ ∃ k x, 1 ≤ k ∧ k ≤ n ∧ x ∈ lvl m k q ∧ x.1 = w
  | 0, q => ⟨(fun h => by cases h), (fun ⟨k, x, h1, h2, _⟩ => by omega)⟩
  | n + 1, q => by
    have ih := rowsB_mem (m := m) w n (q.flatMap (kids m))
    show w ∈ (q.flatMap (kids m)).map (·.1) ++ rowsB m n (q.flatMap (kids m)) ↔ _
    rw [List.mem_append, ih]
    constructor
    · rintro (h | ⟨k, x, h1, h2, h3, h4⟩)
      · obtain ⟨x, hx, e⟩ := List.mem_map.mp h
        exact ⟨1, x, by omega, by omega, hx, e⟩
      · exact ⟨k + 1, x, by omega, by omega, h3, h4⟩
    · rintro ⟨k, x, h1, h2, h3, h4⟩
      obtain ⟨k, rfl⟩ : ∃ j, k = j + 1 := ⟨k - 1, by omega⟩
      by_cases c : k = 0
      · subst c
        exact .inl (List.mem_map.mpr ⟨x, h3, h4⟩)
      · exact .inr ⟨k, x, by omega, by omega, h3, h4⟩
theorem lvl_succ (m : Mach) : ∀ (n : Nat) (q : List Item), lvl m (n + 1) q = (lvl m n q).flatMap (kids m)
  | 0, q => rfl
  | n + 1, q => lvl_succ m n (q.flatMap (kids m))
theorem run_prefix {m : Mach} {w : List Str} {l : Str} {k : Nat} {i : Nat} (h : run m i (w ++ [l]) = some k) : ∃ j, run m i w = some j ∧ led1 m j l = some k := by
  cases q : run m i w with
  | none =>
    unfold run at h q
    rw [List.foldl_append, q] at h
    cases h
  | some j => exact ⟨j, rfl, by rw [← run_snoc q]; exact h⟩
theorem pth_lvl {m : Mach} (G : Good m) : ∀ (n : Nat) (w : List Str) (pre : List Nat) (i : Nat), w.length = n → Pth m w pre i → (w, pre, i) ∈ lvl m n q0
  | 0, w, pre, i, hl, P => by
    have : w = [] := List.length_eq_zero_iff.mp hl
    subst this
    have h1 := P.run
    have h2 := P.ends
    cases h1
    have : pre = [] := by
      have := congrArg List.length h2
      simp [ends] at this
      exact this
    subst this
    exact List.mem_singleton.mpr rfl
  | n + 1, w, pre, i, hl, P => by
    have hne : w ≠ [] := by intro z; rw [z] at hl; simp at hl
    obtain ⟨w2, l, rfl⟩ : ∃ w2 l, w = w2 ++ [l] := ⟨w.dropLast, w.getLast hne, (List.dropLast_concat_getLast hne).symm⟩
    obtain ⟨j, h1, h2⟩ := run_prefix P.run
    obtain ⟨pre2, h3, h4⟩ := ends_last h1
    have e := ends_snoc h1 h2
    rw [P.ends, h3] at e
    have e2 : pre = pre2 ++ [j] := by
      have := List.append_inj_left' e rfl
      exact this
    subst e2
    have nd := P.nd
    have P2 : Pth m w2 pre2 j := ⟨h1, h3, (List.nodup_append.mp nd).1⟩
    have ih := pth_lvl G n w2 pre2 j (by simpa using hl) P2
    rw [lvl_succ]
    refine List.mem_flatMap.mpr ⟨_, ih, List.mem_map.mpr ⟨(l, i), List.mem_filter.mpr ⟨(led_lt G h2).2.2, decide_eq_true ?_⟩, rfl⟩⟩
    have := (List.nodup_append.mp nd).2.2
    exact fun z => this i z i (List.mem_singleton.mpr rfl) rfl
theorem mem_shorts {m : Mach} (G : Good m) (w : List Str) : w ∈ shorts m ↔ ∃ pre i, Pth m w pre i := by
  constructor
  · intro h
    rcases List.mem_cons.mp h with rfl | h
    · exact ⟨[], 0, Pth.nil m⟩
    · obtain ⟨k, x, h1, h2, h3, rfl⟩ := (rowsB_mem w 3 q0).mp h
      exact ⟨_, _, (lvl_It G k 0 q0 (q0_It m) x h3).1⟩
  · rintro ⟨pre, i, P⟩
    have L := P.len G
    by_cases c : w = []
    · subst c; exact List.mem_cons_self
    · have : 1 ≤ w.length := by cases w with | nil => exact absurd rfl c | cons a r => simp
      exact List.mem_cons_of_mem _ ((rowsB_mem w 3 q0).mpr ⟨w.length, _, this, by omega, pth_lvl G w.length w pre i rfl P, rfl⟩)
theorem shorts_run {m : Mach} (G : Good m) {w : List Str} (h : (run m 0 w).isSome = true) : w ∈ shorts m ↔ (ends m 0 w).Nodup := by
  rw [mem_shorts G]
  constructor
  · rintro ⟨pre, i, P⟩
    rw [P.ends]; exact P.nd
  · intro hn
    cases q : run m 0 w with
    | none => rw [q] at h; cases h
    | some i =>
      obtain ⟨pre, e, _⟩ := ends_last q
      exact ⟨pre, i, q, e, by rw [← e]; exact hn⟩
theorem rowsB_len {m : Mach} (G : Good m) : ∀ (n : Nat) (q : List Item), (rowsB m n q).length ≤ q.length * 4 ^ (n + 1)
  | 0, q => by simp [rowsB]
  | n + 1, q => by
    have ih := rowsB_len G n (q.flatMap (kids m))
    have kl := kidss_len G q
    have h1 : (q.flatMap (kids m)).length * 4 ^ (n + 1) ≤ 3 * q.length * 4 ^ (n + 1) := Nat.mul_le_mul_right _ kl
    have h3 : q.length * 4 ≤ q.length * 4 ^ (n + 1) := Nat.mul_le_mul_left _ (by have := Nat.pow_le_pow_right (n := 4) (by decide) (show 1 ≤ n + 1 by omega); simpa using this)
    have h2 : q.length * (4 ^ (n + 1) * 4) = 3 * q.length * 4 ^ (n + 1) + q.length * 4 ^ (n + 1) := by
      have e4 : 4 * q.length = 3 * q.length + q.length := by omega
      rw [Nat.mul_comm (4 ^ (n + 1)) 4, ← Nat.mul_assoc, Nat.mul_comm q.length 4, e4, Nat.add_mul]
    show ((q.flatMap (kids m)).map (·.1) ++ rowsB m n (q.flatMap (kids m))).length ≤ _
    rw [List.length_append, List.length_map, Nat.pow_succ 4 (n + 1), h2]
    omega
theorem shorts_len {m : Mach} (G : Good m) : (shorts m).length ≤ 257 := by
  have := rowsB_len G 3 q0
  show (rowsB m 3 q0).length + 1 ≤ 257
  have e : q0.length * 4 ^ (3 + 1) = 256 := by decide
  omega
end DL
set_option Elab.async false
set_option linter.all false
set_option maxRecDepth 100000
set_option maxHeartbeats 4000000
/-! QM: first turns. -/
namespace DL
open PySem L2
def tnOf (w : List Str) (es : List Nat) (ms : List (Str × Nat)) : List (List Str × List Str) := (ms.filter fun q => decide (q.2 ∈ es)).map fun q => (w.take (es.idxOf q.2), w.drop (es.idxOf q.2) ++ [q.1])
def tn (m : Mach) (w : List Str) : List (List Str × List Str) := tnOf w (ends m 0 w) (mv m ((ends m 0 w).getLastD 0))
def firsts (m : Mach) : List (List Str × List Str) := (shorts m).flatMap (tn m)
theorem tn_of {m : Mach} {w : List Str} {pre : List Nat} {i : Nat} (P : Pth m w pre i) : tn m w = tnOf w (pre ++ [i]) (mv m i) := by
  unfold tn
  rw [P.ends]
  have : (pre ++ [i]).getLastD 0 = i := by simp [List.getLastD_eq_getLast?]
  rw [this]
theorem tnOf_len (w : List Str) (es : List Nat) (ms : List (Str × Nat)) : (tnOf w es ms).length ≤ ms.length := by
  unfold tnOf
  rw [List.length_map]
  exact List.length_filter_le _ _
theorem FT_firsts {m : Mach} (G : Good m) {g : List Str × List Str} (h : FT m g) : g ∈ firsts m := by
  obtain ⟨w, pre, i, l, j, P, h1, h2, rfl⟩ := h
  refine List.mem_flatMap.mpr ⟨w, (mem_shorts G w).mpr ⟨pre, i, P⟩, ?_⟩
  rw [tn_of P]
  exact List.mem_map.mpr ⟨(l, j), List.mem_filter.mpr ⟨h1, decide_eq_true h2⟩, rfl⟩
abbrev ftI : EnvM → Bag → SRes := (mIf (mCmp inAP (mVar 5) (mVar 3)) (mSeq (mSet (mgName 6) (mIndex (mVar 3) (mVar 5)))
  (mApp 1 (mTup (mCons (mG (mSl (mVar 2) mNoPart (mPart (mVar 6)))) (mCons (mG (mTup (mStar (mSl (mVar 2) (mPart (mVar 6)) mNoPart) (mCons (mG (mVar 4)) mNil)))) mNil))))) mSkip)
abbrev ftM : EnvM → Bag → SRes := (mSeq (mSet (mgName 3) (mCallE 2 f_standings_along (mCons (mG (mVar 0)) (mCons (mG (mVar 2)) mNil))))
  (mFor (mSeqOfS (mCall 2 f_moves_at (mCons (mG (mVar 0)) (mCons (mG (mOp ixP (mVar 3) (mNeg (mC (.int 1))))) mNil)))) (mgTup (mgCons (mgName 4) (mgCons (mgName 5) mgNil)) 2) ftI))
theorem ft_inner (m : Mach) (w : List Str) (es : List Nat) (hw : w.length ≤ 100) (B : Bag) : ∀ (ms : List (Str × Nat)) (found : List (List Str × List Str)) (o4 o5 o6 : Option SV), found.length + ms.length ≤ 900 →
    ∃ p4 p5 p6, mLoop (mgTup (mgCons (mgName 4) (mgCons (mgName 5) mgNil)) 2) ftI (ms.map eMI) [some (.d (eM m)), some (.own (found.map eG)), some (.d (eT w)), some (.d (eNT es)), o4, o5, o6] B =
      .nx [some (.d (eM m)), some (.own ((found ++ tnOf w es ms).map eG)), some (.d (eT w)), some (.d (eNT es)), p4, p5, p6] B
  | [], found, o4, o5, o6, _ => ⟨o4, o5, o6, by simp only [tnOf, List.filter_nil, List.map_nil, List.append_nil]; rfl⟩
  | c :: ms, found, o4, o5, o6, hf => by
    rw [List.length_cons] at hf
    rw [List.map_cons]
    by_cases h : c.2 ∈ es
    · have ek : tnOf w es (c :: ms) = (w.take (es.idxOf c.2), w.drop (es.idxOf c.2) ++ [c.1]) :: tnOf w es ms := by unfold tnOf; rw [List.filter_cons, if_pos (by simp only [decide_eq_true_eq]; exact h)]; rfl
      generalize ha : es.idxOf c.2 = a at ek
      obtain ⟨p4, p5, p6, e⟩ := ft_inner m w es hw B ms (found ++ [(w.take a, w.drop a ++ [c.1])]) (some (.d (.str c.1))) (some (.d (eI c.2))) (some (.d (eI a))) (by simp; omega)
      refine ⟨p4, p5, p6, ?_⟩
      have e3 : found ++ tnOf w es (c :: ms) = found ++ [(w.take a, w.drop a ++ [c.1])] ++ tnOf w es ms := by rw [ek]; simp
      rw [e3, ← e]
      refine mLoop_nx (e1 := [some (.d (eM m)), some (.own (found.map eG)), some (.d (eT w)), some (.d (eNT es)), some (.d (.str c.1)), some (.d (eI c.2)), o6]) rfl (s_ifT (r_cmp (r_var (x := eI c.2) rfl) (r_var (x := eNT es) rfl) (by rw [in_intsT, decide_eq_true h])) (s_seq (s_set (r_index (r_var (x := eNT es) rfl) rfl (r_var (x := eI c.2) rfl) (index_intsT h)) rfl) ?_))
      rw [ha]
      have e5 := s_app (i := 1) (env := [some (.d (eM m)), some (.own (found.map eG)), some (.d (eT w)), some (.d (eNT es)), some (.d (.str c.1)), some (.d (eI c.2)), some (.d (eI a))]) (B := B) (B1 := B) (d := eG (w.take a, w.drop a ++ [c.1])) (xs := found.map eG)
        (m := mTup (mCons (mG (mSl (mVar 2) mNoPart (mPart (mVar 6)))) (mCons (mG (mTup (mStar (mSl (mVar 2) (mPart (mVar 6)) mNoPart) (mCons (mG (mVar 4)) mNil)))) mNil)))
        (r_tup (r_cons (r_g (r_sl (r_var (x := eT w) rfl) r_noPart (r_part (i := (a : Int)) (r_var rfl)) (slT_lo w a))) (r_cons (r_g (star_str (r_sl (r_var (x := eT w) rfl) (r_part (i := (a : Int)) (r_var rfl)) r_noPart (slT_hi w a)) (r_var rfl) (by rw [List.length_drop]; omega))) r_nil)) rfl (show 2 ≤ sizeLine by decide)) rfl (len_lt (by rw [List.length_map]; omega))
      rw [List.map_append]
      exact e5
    · have ek : tnOf w es (c :: ms) = tnOf w es ms := by unfold tnOf; rw [List.filter_cons, if_neg (by simp only [decide_eq_true_eq]; exact h)]
      obtain ⟨p4, p5, p6, e⟩ := ft_inner m w es hw B ms found (some (.d (.str c.1))) (some (.d (eI c.2))) o6 (by omega)
      refine ⟨p4, p5, p6, ?_⟩
      rw [ek, ← e]
      exact mLoop_nx (e1 := [some (.d (eM m)), some (.own (found.map eG)), some (.d (eT w)), some (.d (eNT es)), some (.d (.str c.1)), some (.d (eI c.2)), o6]) rfl (s_ifF (r_cmp (r_var (x := eI c.2) rfl) (r_var (x := eNT es) rfl) (by rw [in_intsT, decide_eq_false h])) s_skip)
theorem ft_loop {m : Mach} (G : Good m) (B : Bag) : ∀ (rows : List (List Str)) (found : List (List Str × List Str)) (o2 o3 o4 o5 o6 : Option SV), (∀ w ∈ rows, w ∈ shorts m) → found.length + 3 * rows.length ≤ 800 →
    ∃ p2 p3 p4 p5 p6, mLoop (mgName 2) ftM (rows.map eT) [some (.d (eM m)), some (.own (found.map eG)), o2, o3, o4, o5, o6] B = .nx [some (.d (eM m)), some (.own ((found ++ rows.flatMap (tn m)).map eG)), p2, p3, p4, p5, p6] B
  | [], found, o2, o3, o4, o5, o6, _, _ => ⟨o2, o3, o4, o5, o6, by simp only [List.map_nil, List.flatMap_nil, List.append_nil]; rfl⟩
  | w :: rows, found, o2, o3, o4, o5, o6, hr, hf => by
    rw [List.length_cons] at hf
    obtain ⟨pre, i, P⟩ := (mem_shorts G w).mp (hr w List.mem_cons_self)
    have L := P.len G
    have ml := mv_len G i
    have tl := tnOf_len w (pre ++ [i]) (mv m i)
    obtain ⟨a4, a5, a6, e1⟩ := ft_inner m w (pre ++ [i]) (by omega) B (mv m i) found o4 o5 o6 (by omega)
    obtain ⟨p2, p3, p4, p5, p6, e2⟩ := ft_loop G B rows (found ++ tnOf w (pre ++ [i]) (mv m i)) (some (.d (eT w))) (some (.d (eNT (pre ++ [i])))) a4 a5 a6 (fun y hy => hr y (List.mem_cons_of_mem _ hy)) (by rw [List.length_append]; omega)
    refine ⟨p2, p3, p4, p5, p6, ?_⟩
    rw [List.flatMap_cons, tn_of P, ← List.append_assoc, ← e2, List.map_cons]
    have es := standings_ok G (P.okS G) (by omega) (by rw [P.run]; rfl) B
    rw [P.ends] at es
    exact mLoop_nx (e1 := [some (.d (eM m)), some (.own (found.map eG)), some (.d (eT w)), o3, o4, o5, o6]) rfl (s_seq (s_set (r_callE (r_cons (r_g (r_var rfl)) (r_cons (r_g (r_var rfl)) r_nil)) rfl es) rfl) (s_for1 (r_seqT (r_call (r_cons (r_g (r_var rfl)) (r_cons (r_g (r_op (r_var (x := eNT (pre ++ [i])) rfl) (r_neg r_c) (lastT _ _))) r_nil)) rfl (moves_at_ok G L.2.2 B))) e1))
theorem first_turns_ok {m : Mach} (G : Good m) (B : Bag) : f_first_turns [.d (eM m)] B = .ok (.tuple ((firsts m).map eG)) B := by
  have sl := shorts_len G
  obtain ⟨p2, p3, p4, p5, p6, e⟩ := ft_loop G B (shorts m) [] none none none none none (fun w h => h) (by simp; omega)
  unfold f_first_turns b_first_turns
  exact s_fn (s_seq (B1 := B) (e1 := [some (.d (eM m)), some (.own []), none, none, none, none, none]) rfl (s_seq (s_for1 (r_seqT (r_call (r_cons (r_g (r_var rfl)) r_nil) rfl (short_rows_ok G B))) e) (s_ret (r_ca (r_cons (r_g (r_var (x := .list ((firsts m).map eG)) rfl)) r_nil) rfl))))
end DL
set_option Elab.async false
set_option linter.all false
set_option maxRecDepth 100000
set_option maxHeartbeats 4000000
/-! QN: the law's first turns; the law's letters; the bad things. -/
namespace DL
open PySem L2
theorem range0 (n : Nat) : rangeP 0 n = (List.range n).map eI := by
  unfold rangeP
  refine List.map_congr_left fun i _ => ?_
  show PyData.int (0 + (i : Int)) = .int (i : Int)
  rw [Int.zero_add]
theorem ends_len {m : Mach} {w : List Str} (h : (run m 0 w).isSome = true) : (ends m 0 w).length = w.length + 1 := by
  cases q : run m 0 w with
  | none => rw [q] at h; cases h
  | some i =>
    obtain ⟨pre, e, hl⟩ := ends_last q
    rw [e]; simp [hl]
/-- [_law_end(machine, 0, row[:many]) for many in range(len(row) + 1)] -/
theorem ends_map {m : Mach} {w : List Str} (h : (run m 0 w).isSome = true) : ((List.range (w.length + 1)).map fun k => optP (run m 0 (w.take k))) = (ends m 0 w).map eI := by
  refine List.ext_getElem (by simp [ends_len h]) fun k h1 h2 => ?_
  have hk : k ≤ w.length := by simp at h1; omega
  have t := (run_take (m := m) (w := w) (i := 0) k h hk).1
  have hk2 : k < (ends m 0 w).length := by rw [ends_len h]; omega
  rw [List.getElem_map, List.getElem_map, List.getElem_range, t, List.getElem?_eq_getElem hk2]
  rfl
theorem ends_lc {m : Mach} (G : Good m) {w : List Str} (hw : ∀ x ∈ w, okS x) (h : (run m 0 w).isSome = true) {g : PD → EnvM → Option EnvM} {mm : EnvM → Bag → Res PD} {env0 : EnvM} {B : Bag}
    (hk : ∀ k : Nat, ∃ e1, g (eI k) env0 = some e1 ∧ ∀ z, f__law_end [.d (eM m), .d (.int 0), .d (eT (w.take k))] B = .ok z B → mm e1 B = .ok z B) : mLcGo g mYes mm env0 (rangeP 0 (w.length + 1)) B = .ok ((ends m 0 w).map eI) B := by
  rw [range0, ← ends_map h]
  refine lc_ty1 eI _ fun k _ => ?_
  obtain ⟨e1, h1, h2⟩ := hk k
  exact ⟨e1, h1, h2 _ (law_end_ok G (i := 0) (by have := G.len1; omega) (fun x hx => hw x (List.mem_of_mem_take hx)) B)⟩
theorem lenT (w : List Str) : (unD [.d (eT w)]).bind lenP = some (.int (w.length : Int)) := by
  show some (PyData.int ((w.map PyData.str).length : Int)) = _
  rw [List.length_map]
theorem ends_along_ok {m : Mach} (G : Good m) {w : List Str} (hw : ∀ x ∈ w, okS x) (hl : w.length ≤ 200) (h : (run m 0 w).isSome = true) (B : Bag) : f__law_ends_along [.d (eM m), .d (eT w)] B = .ok (eNL (ends m 0 w)) B := by
  unfold f__law_ends_along b__law_ends_along
  have e1 : mRange1 (mCons (mG (mOp addP (mCa lenP (mCons (mG (mVar 1)) mNil)) (mC (.int 1)))) mNil) [some (.d (eM m)), some (.d (eT w)), none] B = .ok (rangeP 0 (w.length + 1)) B := by
    have := r_range1 (B := B) (B1 := B) (m := mCons (mG (mOp addP (mCa lenP (mCons (mG (mVar 1)) mNil)) (mC (.int 1)))) mNil) (env := [some (.d (eM m)), some (.d (eT w)), none]) (j := ((w.length + 1 : Nat) : Int)) (r_cons (r_g (r_op (r_ca (r_cons (r_g (r_var (x := eT w) rfl)) r_nil) (lenT w)) r_c rfl)) r_nil) ⟨by omega, by omega⟩
    exact this
  exact s_fn (s_ret (r_lc e1 (len_le (by unfold rangeP; simp; omega)) (ends_lc G hw h fun k => ⟨_, rfl, fun z hz => r_call (r_cons (r_g (r_var (x := eM m) rfl)) (r_cons (r_g r_c) (r_cons (r_g (r_sl (r_var (x := eT w) rfl) r_noPart (r_part (i := (k : Int)) (r_var rfl)) (slT_lo w k))) r_nil))) rfl hz⟩)))
theorem idx_snoc {es : List Nat} {j : Nat} (h : j ∈ es) : (es ++ [j]).idxOf j = es.idxOf j := by
  rw [List.idxOf_append, if_pos h]
theorem slNL_but (es : List Nat) (j : Nat) : sliceP (eNL (es ++ [j])) none (some (-1)) = some (eNL es) := by
  show some (PyData.list (cutP ((es ++ [j]).map eI) none (some (-1)))) = _
  have e : cutP ((es ++ [j]).map eI) none (some (-1)) = es.map eI := by
    unfold cutP
    rw [HT.sIx_none, List.drop_zero, Nat.sub_zero]
    have : HT.sIx ((es ++ [j]).map eI).length ((es ++ [j]).map eI).length (some (-1)) = es.length := by
      show (if (-1 : Int) < 0 then ((-1 : Int) + (((es ++ [j]).map eI).length : Int)).toNat else min (-1 : Int).toNat ((es ++ [j]).map eI).length) = _
      rw [if_pos (by decide)]
      simp; omega
    rw [this, List.map_append, List.take_left' (by simp)]
  rw [e]; rfl
abbrev wlB : EnvM → Bag → SRes := (mSeq (mSet (mgName 2) (mOp addP (mVar 2) (mTup (mCons (mG (mVar 4)) mNil))))
  (mSeq (mSet (mgName 5) (mCall 2 f__law_ends_along (mCons (mG (mVar 0)) (mCons (mG (mVar 2)) mNil))))
  (mIf (mCmp inAP (mOp ixP (mVar 5) (mNeg (mC (.int 1)))) (mSl (mVar 5) mNoPart (mPart (mNeg (mC (.int 1)))))) (mSeq (mSet (mgName 6) (mIndex (mVar 5) (mOp ixP (mVar 5) (mNeg (mC (.int 1))))))
  (mSeq (mApp 3 (mTup (mCons (mG (mSl (mVar 2) mNoPart (mPart (mVar 6)))) (mCons (mG (mSl (mVar 2) (mPart (mVar 6)) mNoPart)) mNil))))
  (mSet (mgName 2) (mSl (mVar 2) mNoPart (mPart (mVar 6)))))) mSkip)))
theorem wl_loop {m : Mach} (G : Good m) (o1 : Option SV) (B : Bag) : ∀ (w : List Str) (kept : List Str) (pre : List Nat) (i : Nat) (gone : List (List Str × List Str)) (o4 o5 o6 : Option SV), Pth m kept pre i → (run m i w).isSome = true → gone.length + w.length ≤ 800 →
    ∃ p4 p5 p6, mLoop (mgName 4) wlB (w.map PyData.str) [some (.d (eM m)), o1, some (.d (eT kept)), some (.own (gone.map eG)), o4, o5, o6] B = .nx [some (.d (eM m)), o1, some (.d (eT (wk m kept pre i gone w).1)), some (.own ((wk m kept pre i gone w).2.map eG)), p4, p5, p6] B
  | [], kept, pre, i, gone, o4, o5, o6, P, _, _ => ⟨o4, o5, o6, rfl⟩
  | l :: w, kept, pre, i, gone, o4, o5, o6, P, h, hl => by
    rw [run_cons] at h
    rw [List.length_cons] at hl
    have L := P.len G
    have hk := P.okS G
    cases q : led1 m i l with
    | none => rw [q] at h; cases h
    | some j =>
      rw [q] at h
      have lt := led_lt G q
      have hw2 : ∀ x ∈ kept ++ [l], okS x := fun x hx => by
        rcases List.mem_append.mp hx with hx | hx
        · exact hk x hx
        · rw [List.mem_singleton] at hx; rw [hx]; exact okS_abc _ lt.2.1
      have hr : run m 0 (kept ++ [l]) = some j := (run_snoc P.run).trans q
      have he : ends m 0 (kept ++ [l]) = (pre ++ [i]) ++ [j] := by rw [ends_snoc P.run q, P.ends]
      have e1 := ends_along_ok G hw2 (by simp; omega) (by rw [hr]; rfl) B
      rw [he] at e1
      generalize hes : pre ++ [i] = es at e1 he
      have hlen : es.length = kept.length + 1 := by rw [← hes]; simp; omega
      have f1 : wlB [some (.d (eM m)), o1, some (.d (eT kept)), some (.own (gone.map eG)), some (.d (.str l)), o5, o6] B = (mIf (mCmp inAP (mOp ixP (mVar 5) (mNeg (mC (.int 1)))) (mSl (mVar 5) mNoPart (mPart (mNeg (mC (.int 1)))))) (mSeq (mSet (mgName 6) (mIndex (mVar 5) (mOp ixP (mVar 5) (mNeg (mC (.int 1))))))
  (mSeq (mApp 3 (mTup (mCons (mG (mSl (mVar 2) mNoPart (mPart (mVar 6)))) (mCons (mG (mSl (mVar 2) (mPart (mVar 6)) mNoPart)) mNil))))
  (mSet (mgName 2) (mSl (mVar 2) mNoPart (mPart (mVar 6)))))) mSkip) [some (.d (eM m)), o1, some (.d (eT (kept ++ [l]))), some (.own (gone.map eG)), some (.d (.str l)), some (.d (eNL (es ++ [j]))), o6] B :=
        s_seq (s_set (add_str (r_var (x := eT kept) rfl) (r_var rfl) (by omega)) rfl) (s_seq (s_set (r_call (r_cons (r_g (r_var (x := eM m) rfl)) (r_cons (r_g (r_var (x := eT (kept ++ [l])) rfl)) r_nil)) rfl e1) rfl) rfl)
      have c0 : ∀ (b : Bool), decide (j ∈ es) = b → mCmp inAP (mOp ixP (mVar 5) (mNeg (mC (.int 1)))) (mSl (mVar 5) mNoPart (mPart (mNeg (mC (.int 1))))) [some (.d (eM m)), o1, some (.d (eT (kept ++ [l]))), some (.own (gone.map eG)), some (.d (.str l)), some (.d (eNL (es ++ [j]))), o6] B = .ok b B := fun b hb =>
        r_cmp (r_op (r_var (x := eNL (es ++ [j])) rfl) (r_neg r_c) (lastL es j)) (r_sl (r_var (x := eNL (es ++ [j])) rfl) r_noPart (r_part (r_neg r_c)) (slNL_but es j)) (by rw [in_intsL, hb])
      rw [List.map_cons]
      by_cases c : j ∈ es
      · have ew : wk m kept pre i gone (l :: w) = wk m (kept.take (es.idxOf j)) (es.take (es.idxOf j)) j (gone ++ [(kept.take (es.idxOf j), kept.drop (es.idxOf j) ++ [l])]) w := by
          rw [← hes]
          show (match led1 m i l with | none => _ | some j => _) = _
          rw [q]
          exact if_pos (by rw [hes]; exact c)
        rw [ew]
        have P2 := P.cut G (j := j) (by rw [hes]; exact c)
        rw [hes] at P2
        have hi := List.idxOf_lt_length_of_mem c
        generalize ha : es.idxOf j = a at P2 hi
        have t1 : (kept ++ [l]).take a = kept.take a := List.take_append_of_le_length (by omega)
        have t2 : (kept ++ [l]).drop a = kept.drop a ++ [l] := List.drop_append_of_le_length (by omega)
        obtain ⟨p4, p5, p6, e⟩ := wl_loop G o1 B w (kept.take a) (es.take a) j (gone ++ [(kept.take a, kept.drop a ++ [l])]) (some (.d (.str l))) (some (.d (eNL (es ++ [j])))) (some (.d (eI a))) P2 h (by simp; omega)
        refine ⟨p4, p5, p6, ?_⟩
        rw [← e]
        refine mLoop_nx (e1 := [some (.d (eM m)), o1, some (.d (eT kept)), some (.own (gone.map eG)), some (.d (.str l)), o5, o6]) rfl (f1.trans (s_ifT (c0 true (decide_eq_true c)) (s_seq (s_set (x := eI a) (B1 := B) (r_index (r_var (x := eNL (es ++ [j])) rfl) rfl (r_op (r_var (x := eNL (es ++ [j])) rfl) (r_neg r_c) (lastL es j)) (by rw [index_intsL (by simp), idx_snoc c, ha])) rfl) ?_)))
        have e5 := s_app (i := 3) (env := [some (.d (eM m)), o1, some (.d (eT (kept ++ [l]))), some (.own (gone.map eG)), some (.d (.str l)), some (.d (eNL (es ++ [j]))), some (.d (eI a))]) (B := B) (B1 := B) (d := eG (kept.take a, kept.drop a ++ [l])) (xs := gone.map eG)
          (m := mTup (mCons (mG (mSl (mVar 2) mNoPart (mPart (mVar 6)))) (mCons (mG (mSl (mVar 2) (mPart (mVar 6)) mNoPart)) mNil)))
          (r_tup (r_cons (r_g (r_sl (z := eT (kept.take a)) (r_var (x := eT (kept ++ [l])) rfl) r_noPart (r_part (i := (a : Int)) (r_var rfl)) (by rw [slT_lo, t1]))) (r_cons (r_g (r_sl (z := eT (kept.drop a ++ [l])) (r_var (x := eT (kept ++ [l])) rfl) (r_part (i := (a : Int)) (r_var rfl)) r_noPart (by rw [slT_hi, t2]))) r_nil)) rfl (show 2 ≤ sizeLine by decide)) rfl (len_lt (by rw [List.length_map]; omega))
        rw [List.map_append]
        exact s_seq e5 (s_set (r_sl (z := eT (kept.take a)) (r_var (x := eT (kept ++ [l])) rfl) r_noPart (r_part (i := (a : Int)) (r_var rfl)) (by rw [slT_lo, t1])) rfl)
      · have ew : wk m kept pre i gone (l :: w) = wk m (kept ++ [l]) es j gone w := by
          rw [← hes]
          show (match led1 m i l with | none => _ | some j => _) = _
          rw [q]
          exact if_neg (by rw [hes]; exact c)
        rw [ew]
        have P2 := P.snoc q (by rw [hes]; exact c)
        rw [hes] at P2
        obtain ⟨p4, p5, p6, e⟩ := wl_loop G o1 B w (kept ++ [l]) es j gone (some (.d (.str l))) (some (.d (eNL (es ++ [j])))) o6 P2 h (by omega)
        refine ⟨p4, p5, p6, ?_⟩
        rw [← e]
        exact mLoop_nx (e1 := [some (.d (eM m)), o1, some (.d (eT kept)), some (.own (gone.map eG)), some (.d (.str l)), o5, o6]) rfl (f1.trans (s_ifF (c0 false (decide_eq_false c)) s_skip))
theorem law_walk_ok {m : Mach} (G : Good m) {w : List Str} (hl : w.length ≤ 200) (h : (run m 0 w).isSome = true) (B : Bag) : f__law_walk [.d (eM m), .d (eT w)] B = .ok (.tuple [eT (wk m [] [] 0 [] w).1, .tuple ((wk m [] [] 0 [] w).2.map eG)]) B := by
  obtain ⟨p4, p5, p6, e⟩ := wl_loop G (some (.d (eT w))) B w [] [] 0 [] none none none (Pth.nil m) h (by simp; omega)
  unfold f__law_walk b__law_walk
  refine s_fn (s_seq (B1 := B) (e1 := [some (.d (eM m)), some (.d (eT w)), some (.d (eT [])), some (.own []), none, none, none]) rfl (s_seq (s_for1 (r_seqT (r_var (x := eT w) rfl)) e) (s_ret (r_tup (r_cons (r_g (r_var (x := eT (wk m [] [] 0 [] w).1) rfl)) (r_cons (r_g (r_ca (r_cons (r_g (r_var (x := .list ((wk m [] [] 0 [] w).2.map eG)) rfl)) r_nil) rfl)) r_nil)) rfl (show 2 ≤ sizeLine by decide)))))
/-! the law's letters -/
theorem ll_letters (o0 : Option SV) (B : Bag) : ∀ (ms : Mach) (acc : List Str) (o2 o3 : Option SV), acc.length + 3 * ms.length ≤ 800 → (∀ p ∈ ms, p.2.length ≤ 3) →
    ∃ p2 p3, mLoop (mgTup (mgCons (mgName 2) (mgCons (mgName 3) mgNil)) 2) (mSet (mgName 1) (mOp addP (mVar 1) (mLc [4, 5] (mSeqOfS (mVar 3)) (mgTup (mgCons (mgName 4) (mgCons (mgName 5) mgNil)) 2) mYes (mVar 4)))) (ms.map eSt) [o0, some (.d (.list (acc.map PyData.str))), o2, o3, none, none] B =
      .nx [o0, some (.d (.list ((acc ++ flt ms).map PyData.str))), p2, p3, none, none] B
  | [], acc, o2, o3, _, _ => ⟨o2, o3, by simp only [flt, List.flatMap_nil, List.append_nil]; rfl⟩
  | p :: ms, acc, o2, o3, hl, hp => by
    rw [List.length_cons] at hl
    have h3 := hp p List.mem_cons_self
    obtain ⟨p2, p3, e⟩ := ll_letters o0 B ms (acc ++ p.2.map (·.1)) (some (.d (.str p.1))) (some (.d (.tuple (p.2.map eMv)))) (by simp; omega) fun r hr => hp r (List.mem_cons_of_mem _ hr)
    refine ⟨p2, p3, ?_⟩
    have e3 : acc ++ flt (p :: ms) = acc ++ p.2.map (·.1) ++ flt ms := by unfold flt; rw [List.flatMap_cons, List.append_assoc]
    rw [e3, ← e, List.map_cons]
    have e1 : mLc [4, 5] (mSeqOfS (mVar 3)) (mgTup (mgCons (mgName 4) (mgCons (mgName 5) mgNil)) 2) mYes (mVar 4) [o0, some (.d (.list (acc.map PyData.str))), some (.d (.str p.1)), some (.d (.tuple (p.2.map eMv))), none, none] B = .ok (.list ((p.2.map (·.1)).map PyData.str)) B := by
      rw [List.map_map]
      exact r_lc (r_seqT (r_var (x := .tuple (p.2.map eMv)) rfl)) (len_le (by simp; omega)) (lc_ty1 eMv (fun q => .str q.1) fun q hq => ⟨_, rfl, r_var rfl⟩)
    refine mLoop_nx (e1 := [o0, some (.d (.list (acc.map PyData.str))), some (.d (.str p.1)), some (.d (.tuple (p.2.map eMv))), none, none]) rfl (s_set (x := .list ((acc ++ p.2.map (·.1)).map PyData.str)) (B1 := B) (r_op (r_var rfl) e1 ?_) rfl)
    rw [addP_list (by simp; omega), List.map_append]
theorem nodup_sub_len : ∀ {xs ys : List Str}, xs.Nodup → (∀ x ∈ xs, x ∈ ys) → xs.length ≤ ys.length
  | [], ys, _, _ => Nat.zero_le _
  | x :: r, ys, h, hs => by
    rw [List.nodup_cons] at h
    have hx := hs x List.mem_cons_self
    have p := (List.perm_cons_erase hx).length_eq
    have ih := nodup_sub_len (ys := ys.erase x) h.2 fun y hy => (List.mem_erase_of_ne (a := y) (b := x) (fun e : y = x => h.1 (by rw [← e]; exact hy))).mpr (hs y (List.mem_cons_of_mem _ hy))
    rw [List.length_cons] at p ⊢
    omega
theorem intsOf_strs (x : Str) (r : List Str) : intsOf ((x :: r).map PyData.str) = none := rfl
theorem flt_len {m : Mach} (G : Good m) : (flt m).length ≤ 9 := by
  have h3 : ∀ p ∈ m, p.2.length ≤ 3 := fun p hp => (G.mv p hp).len
  have l3 := G.len3
  have fl : (flt m).length ≤ 3 * m.length := by
    unfold flt
    clear l3 G
    induction m with
    | nil => simp
    | cons p r ih =>
      have := h3 p List.mem_cons_self
      have := ih fun q hq => h3 q (List.mem_cons_of_mem _ hq)
      rw [List.flatMap_cons, List.length_append, List.length_map, List.length_cons]; omega
  omega
theorem law_letters_ok {m : Mach} (G : Good m) : ∃ ls : List Str, (∀ x, x ∈ ls ↔ x ∈ flt m) ∧ ls.length ≤ 9 ∧ ∀ B, f__law_letters [.d (eM m)] B = .ok (.list (ls.map PyData.str)) B := by
  have fl := flt_len G
  have hs : srtSetP ((flt m).map PyData.str) = some ((riseS (flt m)).map PyData.str) := by
    unfold srtSetP
    rw [if_pos (by rw [List.length_map]; omega)]
    cases e : flt m with
    | nil =>
      show some ((riseI []).map PyData.int) = some ((riseS []).map PyData.str)
      have e1 : riseS [] = [] := List.Perm.eq_nil (sortS_perm _)
      have e2 : riseI [] = [] := List.Perm.eq_nil (List.mergeSort_perm [] _)
      rw [e1, e2]; rfl
    | cons x r =>
      rw [intsOf_strs]
      show (match unS ((x :: r).map PyData.str) with | some xs => some ((riseS xs).map PyData.str) | none => none) = _
      rw [unS_strs]
  have hm : ∀ x, x ∈ riseS (flt m) ↔ x ∈ flt m := fun x => ((sortS_perm _).mem_iff).trans List.mem_eraseDups
  refine ⟨riseS (flt m), hm, ?_, fun B => ?_⟩
  · have h1 : (riseS (flt m)).length = (flt m).eraseDups.length := (sortS_perm _).length_eq
    have h2 : (flt m).eraseDups.length ≤ (flt m).length := by
      have nd := nodup_eraseDupsS _ (flt m) (Nat.le_refl _)
      exact nodup_sub_len nd fun x hx => List.mem_eraseDups.mp hx
    omega
  · obtain ⟨p2, p3, e⟩ := ll_letters (some (.d (eM m))) B m [] none none (by have := G.len3; simp; omega) fun p hp => (G.mv p hp).len
    unfold f__law_letters b__law_letters
    refine s_fn (s_seq (B1 := B) (e1 := [some (.d (eM m)), some (.d (.list (([] : List Str).map PyData.str))), none, none, none, none]) rfl (s_seq (s_for1 (r_seqT (r_var (x := eM m) rfl)) e) (s_ret ?_)))
    rw [List.nil_append]
    unfold mSrtSetA
    rw [r_var (x := .list ((flt m).map PyData.str)) rfl]
    simp only [Res.bind, hs]
end DL
set_option Elab.async false
set_option linter.all false
set_option maxRecDepth 100000
set_option maxHeartbeats 4000000
/-! QO: the bad things; the law's row. -/
namespace DL
open PySem L2
theorem okS_zz : okS "zz" := by unfold okS; decide +kernel
theorem zz_flt {m : Mach} (G : Good m) : ("zz" : Str) ∉ flt m := fun h => by
  have := flt_abc G h
  revert this
  decide
theorem word_short {m : Mach} {d : PD} (h : isTupB d = false) (B : Bag) : f_is_word [.d (eM m), .d d] B = .ok (.bool false) B ∧ f__law_is_word [.d (eM m), .d d] B = .ok (.bool false) B := by
  unfold f_is_word b_is_word f__law_is_word b__law_is_word
  exact ⟨s_fn (s_seqR (s_ifT (r_orT (r_not (r_truB (k := false) (by rw [← h]; exact r_isi (r_var (x := d) rfl))))) (s_ret r_c))), s_fn (s_seqR (s_ifT (r_orT (r_not (r_truB (k := false) (by rw [← h]; exact r_isi (r_var (x := d) rfl))))) (s_ret r_c)))⟩
theorem word_long {m : Mach} {ds : List PD} (h : 400 < ds.length) (B : Bag) : f_is_word [.d (eM m), .d (.tuple ds)] B = .ok (.bool false) B ∧ f__law_is_word [.d (eM m), .d (.tuple ds)] B = .ok (.bool false) B := by
  have hg : gtP (.int (ds.length : Int)) (.int 400) = some true := by rw [gtP_int, decide_eq_true (by omega)]
  unfold f_is_word b_is_word f__law_is_word b__law_is_word
  exact ⟨s_fn (s_seqR (s_ifT (r_orF (r_not (r_truB (k := true) (r_isi (r_var (x := .tuple ds) rfl)))) (r_cmp (r_ca (r_cons (r_g (r_var (x := .tuple ds) rfl)) r_nil) (lenP_tuple ds)) r_c hg)) (s_ret r_c))), s_fn (s_seqR (s_ifT (r_orF (r_not (r_truB (k := true) (r_isi (r_var (x := .tuple ds) rfl)))) (r_cmp (r_ca (r_cons (r_g (r_var (x := .tuple ds) rfl)) r_nil) (lenP_tuple ds)) r_c hg)) (s_ret r_c)))⟩
theorem filter_ones (p : Str → Bool) : ∀ w : List Str, ((w.filter p).map fun _ => PyData.int 1) = [] ↔ (w.all fun x => !p x) = true
  | [] => by simp
  | x :: r => by
    have ih := filter_ones p r
    rw [List.filter_cons, List.all_cons]
    cases q : p x with
    | true => simp
    | false => simpa using ih
theorem law_is_word_ok {m : Mach} (G : Good m) {w : List Str} (hw : ∀ x ∈ w, okS x) (hl : w.length ≤ 400) (B : Bag) : f__law_is_word [.d (eM m), .d (eT w)] B = .ok (.bool (w.all fun x => decide (x ∈ flt m))) B := by
  obtain ⟨ls, h1, _, h2⟩ := law_letters_ok G
  have hls : ∀ x ∈ ls, okS x := fun x hx => okS_abc x (flt_abc G ((h1 x).mp hx))
  have hc : mLc [2] (mSeqOfS (mVar 1)) (mgName 2) (mOr (mNot (mTru truP (mIsi isStrB (mVar 2)))) (mCmp ninAP (mVar 2) (mCall 1 f__law_letters (mCons (mG (mVar 0)) mNil)))) (mC (.int 1)) [some (.d (eM m)), some (.d (eT w)), none] B = .ok (.list ((w.filter fun x => !decide (x ∈ flt m)).map fun _ => PyData.int 1)) B :=
    r_lc (r_seqT (r_var (x := eT w) rfl)) (len_le (by simp; omega)) (lc_ty PyData.str (fun _ => .int 1) (fun x => !decide (x ∈ flt m)) fun x hx => ⟨_, rfl, r_orF (r_not (r_truB (k := true) (r_isi (r_var (x := .str x) rfl)))) (r_cmp (r_var (x := .str x) rfl) (r_call (r_cons (r_g (r_var rfl)) r_nil) rfl (h2 B)) (by
      rw [ninAP_of (in_strsL (hw x hx) hls)]
      exact congrArg (fun b : Bool => some (!b)) (decide_eq_decide.mpr (h1 x)))), fun _ => r_c⟩)
  have cl : clP 1 (.list ((w.filter fun x => !decide (x ∈ flt m)).map fun _ => PyData.int 1)) = true := by
    show ((w.filter fun x => !decide (x ∈ flt m)).map fun _ => PyData.int 1).all (clP 0) = true
    rw [List.all_eq_true]
    intro d hd
    obtain ⟨x, _, rfl⟩ := List.mem_map.mp hd
    rfl
  have eq1 : eqP (.list ((w.filter fun x => !decide (x ∈ flt m)).map fun _ => PyData.int 1)) (.list []) = some (w.all fun x => decide (x ∈ flt m)) := by
    rw [eqP_cl (n := 1) (m := 1) (e := .list []) cl rfl]
    have f := filter_ones (fun x => !decide (x ∈ flt m)) w
    simp only [Bool.not_not] at f
    cases e : (w.all fun x => decide (x ∈ flt m)) with
    | true => rw [f.mpr e, decide_eq_true rfl]
    | false => rw [decide_eq_false fun z => by rw [f.mp (PyData.list.inj z)] at e; cases e]
  unfold f__law_is_word b__law_is_word
  exact s_fn (s_seq (s_ifF (r_orF (r_not (r_truB (k := true) (r_isi (r_var (x := eT w) rfl)))) (r_cmp (r_ca (r_cons (r_g (r_var (x := eT w) rfl)) r_nil) (lenT w)) r_c (by rw [gtP_int, decide_eq_false (by omega)]))) s_skip) (s_ret (r_b (r_cmp hc (r_lst r_nil rfl (by decide)) eq1))))
theorem law_is_row_ok {m : Mach} (G : Good m) {w : List Str} (hw : ∀ x ∈ w, okS x) (hl : w.length ≤ 400) (B : Bag) : f__law_is_row [.d (eM m), .d (eT w)] B = .ok (.bool (run m 0 w).isSome) B := by
  unfold f__law_is_row b__law_is_row
  have e : (run m 0 w).isSome = ((w.all fun x => decide (x ∈ flt m)) && (run m 0 w).isSome) := by
    cases h : (run m 0 w).isSome with
    | false => rw [Bool.and_false]
    | true => rw [run_flt G w 0 h]; rfl
  rw [e]
  exact s_fn (s_ret (r_andV (r_call (r_cons (r_g (r_var rfl)) (r_cons (r_g (r_var rfl)) r_nil)) rfl (law_is_word_ok G hw hl B)) fun _ =>
    r_b (r_cmp (r_call (r_cons (r_g (r_var rfl)) (r_cons (r_g r_c) (r_cons (r_g (r_var rfl)) r_nil))) rfl (law_end_ok G (i := 0) (by have := G.len1; omega) hw B)) r_c optP_none)))
theorem law_row_short {m : Mach} {d : PD} (h : isTupB d = false) (B : Bag) : f__law_is_row [.d (eM m), .d d] B = .ok (.bool false) B := by
  unfold f__law_is_row b__law_is_row
  have e := r_andV (k' := false) (B := B) (env := [some (.d (eM m)), some (.d d)]) (ma := mCall 2 f__law_is_word (mCons (mG (mVar 0)) (mCons (mG (mVar 1)) mNil))) (mb := mB (mCmp notNoneP (mCall 3 f__law_end (mCons (mG (mVar 0)) (mCons (mG (mC (.int 0))) (mCons (mG (mVar 1)) mNil)))) (mC .none))) (r_call (r_cons (r_g (r_var rfl)) (r_cons (r_g (r_var rfl)) r_nil)) rfl (word_short h B).2) fun z => by cases z
  exact s_fn (s_ret e)
theorem run_zz {m : Mach} (G : Good m) (w : List Str) : (run m 0 (w ++ [("zz" : Str)])).isSome = false := by
  cases h : (run m 0 (w ++ [("zz" : Str)])).isSome with
  | false => rfl
  | true =>
    have := run_flt G _ 0 h
    rw [List.all_eq_true] at this
    exact absurd (of_decide_eq_true (this "zz" (by simp))) (zz_flt G)
end DL
set_option Elab.async false
set_option linter.all false
set_option maxRecDepth 100000
set_option maxHeartbeats 4000000
/-! RQP: k12's first turns, drawn row; sizes. -/
namespace DL
open PySem L2
theorem some_mv {m : Mach} (G : Good m) {i : Nat} (h0 : mv m i ≠ []) (B : Bag) (hc : JB B) : ∃ (q : Str × Nat) (B' : Bag), f__law_some [.bag, .d (.list ((mv m i).map eMI))] B = .ok (eMI q) B' ∧ q ∈ mv m i ∧ JB B' := by
  have ml := mv_len G i
  have h1 : 1 ≤ (mv m i).length := by cases e : mv m i with | nil => exact absurd e h0 | cons a r => simp
  obtain ⟨d, B', e, hm, c⟩ := some_ok ((mv m i).map eMI) (by simpa using h1) (by simp; omega) B hc
  obtain ⟨q, hq, rfl⟩ := List.mem_map.mp hm
  exact ⟨q, B', e, hq, c⟩
theorem neP_moves {m : Mach} (G : Good m) (i : Nat) : neP (.list ((mv m i).map eMI)) (.list []) = some (!decide (mv m i = [])) := by
  have hc : clP 2 (.list ((mv m i).map eMI)) = true := by
    show ((mv m i).map eMI).all (clP 1) = true
    rw [List.all_eq_true]
    intro d hd
    obtain ⟨q, hq, rfl⟩ := List.mem_map.mp hd
    have h1 : clP 0 (.str q.1) = true := okS_abc _ (mv_lt G hq).2.1
    show ([PyData.str q.1, .int (q.2 : Int)].all (clP 0)) = true
    rw [List.all_cons, h1]; rfl
  rw [neP_cl (n := 2) (m := 1) (d := .list ((mv m i).map eMI)) (e := .list []) hc rfl]
  cases mv m i <;> simp
abbrev lfI : EnvM → Bag → SRes := (mIf (mCmp inAP (mVar 5) (mVar 3)) (mApp 1 (mTup (mCons (mG (mSl (mVar 2) mNoPart (mPart (mIndex (mVar 3) (mVar 5))))) (mCons (mG (mOp addP (mSl (mVar 2) (mPart (mIndex (mVar 3) (mVar 5))) mNoPart) (mTup (mCons (mG (mVar 4)) mNil)))) mNil)))) mSkip)
abbrev lfM : EnvM → Bag → SRes := (mSeq (mSet (mgName 3) (mCall 2 f__law_ends_along (mCons (mG (mVar 0)) (mCons (mG (mVar 2)) mNil))))
  (mFor (mSeqOfS (mCall 2 f__law_moves (mCons (mG (mVar 0)) (mCons (mG (mOp ixP (mVar 3) (mNeg (mC (.int 1))))) mNil)))) (mgTup (mgCons (mgName 4) (mgCons (mgName 5) mgNil)) 2) lfI))
theorem lf_inner (m : Mach) (w : List Str) (es : List Nat) (hw : w.length ≤ 100) (B : Bag) : ∀ (ms : List (Str × Nat)) (found : List (List Str × List Str)) (o4 o5 : Option SV), found.length + ms.length ≤ 900 →
    ∃ p4 p5, mLoop (mgTup (mgCons (mgName 4) (mgCons (mgName 5) mgNil)) 2) lfI (ms.map eMI) [some (.d (eM m)), some (.own (found.map eG)), some (.d (eT w)), some (.d (eNL es)), o4, o5] B =
      .nx [some (.d (eM m)), some (.own ((found ++ tnOf w es ms).map eG)), some (.d (eT w)), some (.d (eNL es)), p4, p5] B
  | [], found, o4, o5, _ => ⟨o4, o5, by simp only [tnOf, List.filter_nil, List.map_nil, List.append_nil]; rfl⟩
  | c :: ms, found, o4, o5, hf => by
    rw [List.length_cons] at hf
    rw [List.map_cons]
    by_cases h : c.2 ∈ es
    · have ek : tnOf w es (c :: ms) = (w.take (es.idxOf c.2), w.drop (es.idxOf c.2) ++ [c.1]) :: tnOf w es ms := by unfold tnOf; rw [List.filter_cons, if_pos (by simp only [decide_eq_true_eq]; exact h)]; rfl
      generalize ha : es.idxOf c.2 = a at ek
      obtain ⟨p4, p5, e⟩ := lf_inner m w es hw B ms (found ++ [(w.take a, w.drop a ++ [c.1])]) (some (.d (.str c.1))) (some (.d (eI c.2))) (by simp; omega)
      refine ⟨p4, p5, ?_⟩
      have e3 : found ++ tnOf w es (c :: ms) = found ++ [(w.take a, w.drop a ++ [c.1])] ++ tnOf w es ms := by rw [ek]; simp
      rw [e3, ← e]
      refine mLoop_nx (e1 := [some (.d (eM m)), some (.own (found.map eG)), some (.d (eT w)), some (.d (eNL es)), some (.d (.str c.1)), some (.d (eI c.2))]) rfl (s_ifT (r_cmp (r_var (x := eI c.2) rfl) (r_var (x := eNL es) rfl) (by rw [in_intsL, decide_eq_true h])) ?_)
      have ix : mIndex (mVar 3) (mVar 5) [some (.d (eM m)), some (.own (found.map eG)), some (.d (eT w)), some (.d (eNL es)), some (.d (.str c.1)), some (.d (eI c.2))] B = .ok (.int (a : Int)) B :=
        r_index (r_var (x := eNL es) rfl) rfl (r_var (x := eI c.2) rfl) (by rw [index_intsL h, ha]; rfl)
      have e5 := s_app (i := 1) (env := [some (.d (eM m)), some (.own (found.map eG)), some (.d (eT w)), some (.d (eNL es)), some (.d (.str c.1)), some (.d (eI c.2))]) (B := B) (B1 := B) (d := eG (w.take a, w.drop a ++ [c.1])) (xs := found.map eG)
        (m := mTup (mCons (mG (mSl (mVar 2) mNoPart (mPart (mIndex (mVar 3) (mVar 5))))) (mCons (mG (mOp addP (mSl (mVar 2) (mPart (mIndex (mVar 3) (mVar 5))) mNoPart) (mTup (mCons (mG (mVar 4)) mNil)))) mNil)))
        (r_tup (r_cons (r_g (r_sl (r_var (x := eT w) rfl) r_noPart (r_part ix) (slT_lo w a))) (r_cons (r_g (add_str (r_sl (r_var (x := eT w) rfl) (r_part ix) r_noPart (slT_hi w a)) (r_var rfl) (by rw [List.length_drop]; omega))) r_nil)) rfl (show 2 ≤ sizeLine by decide)) rfl (len_lt (by rw [List.length_map]; omega))
      rw [List.map_append]
      exact e5
    · have ek : tnOf w es (c :: ms) = tnOf w es ms := by unfold tnOf; rw [List.filter_cons, if_neg (by simp only [decide_eq_true_eq]; exact h)]
      obtain ⟨p4, p5, e⟩ := lf_inner m w es hw B ms found (some (.d (.str c.1))) (some (.d (eI c.2))) (by omega)
      refine ⟨p4, p5, ?_⟩
      rw [ek, ← e]
      exact mLoop_nx (e1 := [some (.d (eM m)), some (.own (found.map eG)), some (.d (eT w)), some (.d (eNL es)), some (.d (.str c.1)), some (.d (eI c.2))]) rfl (s_ifF (r_cmp (r_var (x := eI c.2) rfl) (r_var (x := eNL es) rfl) (by rw [in_intsL, decide_eq_false h])) s_skip)
theorem lf_loop {m : Mach} (G : Good m) (B : Bag) : ∀ (rows : List (List Str)) (found : List (List Str × List Str)) (o2 o3 o4 o5 : Option SV), (∀ w ∈ rows, w ∈ shorts m) → found.length + 3 * rows.length ≤ 800 →
    ∃ p2 p3 p4 p5, mLoop (mgName 2) lfM (rows.map eT) [some (.d (eM m)), some (.own (found.map eG)), o2, o3, o4, o5] B = .nx [some (.d (eM m)), some (.own ((found ++ rows.flatMap (tn m)).map eG)), p2, p3, p4, p5] B
  | [], found, o2, o3, o4, o5, _, _ => ⟨o2, o3, o4, o5, by simp only [List.map_nil, List.flatMap_nil, List.append_nil]; rfl⟩
  | w :: rows, found, o2, o3, o4, o5, hr, hf => by
    rw [List.length_cons] at hf
    obtain ⟨pre, i, P⟩ := (mem_shorts G w).mp (hr w List.mem_cons_self)
    have L := P.len G
    have ml := mv_len G i
    have tl := tnOf_len w (pre ++ [i]) (mv m i)
    obtain ⟨a4, a5, e1⟩ := lf_inner m w (pre ++ [i]) (by omega) B (mv m i) found o4 o5 (by omega)
    obtain ⟨p2, p3, p4, p5, e2⟩ := lf_loop G B rows (found ++ tnOf w (pre ++ [i]) (mv m i)) (some (.d (eT w))) (some (.d (eNL (pre ++ [i])))) a4 a5 (fun y hy => hr y (List.mem_cons_of_mem _ hy)) (by rw [List.length_append]; omega)
    refine ⟨p2, p3, p4, p5, ?_⟩
    rw [List.flatMap_cons, tn_of P, ← List.append_assoc, ← e2, List.map_cons]
    have es := ends_along_ok G (P.okS G) (by omega) (by rw [P.run]; rfl) B
    rw [P.ends] at es
    exact mLoop_nx (e1 := [some (.d (eM m)), some (.own (found.map eG)), some (.d (eT w)), o3, o4, o5]) rfl (s_seq (s_set (r_call (r_cons (r_g (r_var rfl)) (r_cons (r_g (r_var rfl)) r_nil)) rfl es) rfl) (s_for1 (r_seqL (r_call (r_cons (r_g (r_var rfl)) (r_cons (r_g (r_op (r_var (x := eNL (pre ++ [i])) rfl) (r_neg r_c) (lastL _ _))) r_nil)) rfl (law_moves_ok G L.2.2 B))) e1))
theorem law_first_ok {m : Mach} (G : Good m) (B : Bag) : f__law_first [.d (eM m)] B = .ok (.tuple ((firsts m).map eG)) B := by
  have sl := shorts_len G
  obtain ⟨p2, p3, p4, p5, e⟩ := lf_loop G B (shorts m) [] none none none none (fun w h => h) (by simp; omega)
  unfold f__law_first b__law_first
  exact s_fn (s_seq (B1 := B) (e1 := [some (.d (eM m)), some (.own []), none, none, none, none]) rfl (s_seq (s_for1 (r_seqL (r_call (r_cons (r_g (r_var rfl)) r_nil) rfl (law_short_rows_ok G B))) e) (s_ret (r_ca (r_cons (r_g (r_var (x := .list ((firsts m).map eG)) rfl)) r_nil) rfl))))
abbrev dwB : EnvM → Bag → SRes := (mSeq (mSet (mgName 6) (mCall 2 f__law_moves (mCons (mG (mVar 1)) (mCons (mG (mVar 4)) mNil))))
  (mIf (mCmp neP (mVar 6) (mLst mNil)) (mSeq (mSet (mgTup (mgCons (mgName 7) (mgCons (mgName 4) mgNil)) 2) (mCall 2 f__law_some (mCons (mBag 0) (mCons (mG (mVar 6)) mNil))))
  (mSet (mgName 3) (mOp addP (mVar 3) (mTup (mCons (mG (mVar 7)) mNil))))) mSkip))
theorem dw_loop {m : Mach} (G : Good m) (o2 : Option SV) : ∀ (ds : List PD) (w : List Str) (i : Nat) (o5 o6 o7 : Option SV) (B : Bag), run m 0 w = some i → i < m.length → w.length + ds.length ≤ 100 → JB B →
    ∃ (w' : List Str) (p4 p5 p6 p7 : Option SV) (B' : Bag), mLoop (mgName 5) dwB ds [some .bag, some (.d (eM m)), o2, some (.d (eT w)), some (.d (eI i)), o5, o6, o7] B = .nx [some .bag, some (.d (eM m)), o2, some (.d (eT w')), p4, p5, p6, p7] B' ∧ (run m 0 w').isSome = true ∧ w'.length ≤ w.length + ds.length ∧ JB B'
  | [], w, i, o5, o6, o7, B, h, hi, hl, hc => ⟨w, _, o5, o6, o7, B, rfl, by rw [h]; rfl, by simp, hc⟩
  | d :: ds, w, i, o5, o6, o7, B, h, hi, hl, hc => by
    rw [List.length_cons] at hl
    have e0 : mCall 2 f__law_moves (mCons (mG (mVar 1)) (mCons (mG (mVar 4)) mNil)) [some .bag, some (.d (eM m)), o2, some (.d (eT w)), some (.d (eI i)), some (.d d), o6, o7] B = .ok (.list ((mv m i).map eMI)) B :=
      r_call (r_cons (r_g (r_var rfl)) (r_cons (r_g (r_var rfl)) r_nil)) rfl (law_moves_ok G hi B)
    by_cases c : mv m i = []
    · obtain ⟨w', p4, p5, p6, p7, B', e2, h2, h3, c2⟩ := dw_loop G o2 ds w i (some (.d d)) (some (.d (.list ((mv m i).map eMI)))) o7 B h hi (by omega) hc
      refine ⟨w', p4, p5, p6, p7, B', ?_, h2, by rw [List.length_cons]; omega, c2⟩
      rw [← e2]
      exact mLoop_nx (e1 := [some .bag, some (.d (eM m)), o2, some (.d (eT w)), some (.d (eI i)), some (.d d), o6, o7]) rfl (s_seq (s_set e0 rfl) (s_ifF (r_cmp (r_var (x := .list ((mv m i).map eMI)) rfl) (r_lst r_nil rfl (by decide)) (by rw [neP_moves G, decide_eq_true c]; rfl)) s_skip))
    · obtain ⟨q, B1, e1, hq, c1⟩ := some_mv G c B hc
      have hr : run m 0 (w ++ [q.1]) = some q.2 := (run_snoc h).trans (led_of G hq)
      obtain ⟨w', p4, p5, p6, p7, B', e2, h2, h3, c2⟩ := dw_loop G o2 ds (w ++ [q.1]) q.2 (some (.d d)) (some (.d (.list ((mv m i).map eMI)))) (some (.d (.str q.1))) B1 hr (mv_lt G hq).1 (by simp; omega) c1
      refine ⟨w', p4, p5, p6, p7, B', ?_, h2, by simp at h3; simp; omega, c2⟩
      rw [← e2]
      refine mLoop_nx (e1 := [some .bag, some (.d (eM m)), o2, some (.d (eT w)), some (.d (eI i)), some (.d d), o6, o7]) rfl ?_
      refine s_seq (s_set e0 rfl) (s_ifT (r_cmp (r_var (x := .list ((mv m i).map eMI)) rfl) (r_lst r_nil rfl (by decide)) (by rw [neP_moves G, decide_eq_false c]; rfl)) ?_)
      refine s_seq (B1 := B1) (e1 := [some .bag, some (.d (eM m)), o2, some (.d (eT w)), some (.d (eI q.2)), some (.d d), some (.d (.list ((mv m i).map eMI))), some (.d (.str q.1))]) (s_set (r_call (r_cons (r_bag rfl) (r_cons (r_g (r_var rfl)) r_nil)) rfl e1) rfl) ?_
      exact s_set (add_str (r_var (x := eT w) rfl) (r_var rfl) (by omega)) rfl
theorem drawn_row_ok {m : Mach} (G : Good m) {n : Nat} (hn : n ≤ 12) (B : Bag) (hc : JB B) : ∃ (w : List Str) (B' : Bag), f__law_drawn_row [.bag, .d (eM m), .d (.int (n : Int))] B = .ok (eT w) B' ∧ (run m 0 w).isSome = true ∧ w.length ≤ 12 ∧ JB B' := by
  obtain ⟨w', p4, p5, p6, p7, B', e, h1, h2, c⟩ := dw_loop G (some (.d (.int (n : Int)))) (rangeP 0 n) [] 0 none none none B rfl (by have := G.len1; omega) (by unfold rangeP; simp; omega) hc
  refine ⟨w', B', ?_, h1, by unfold rangeP at h2; simp at h2; omega, c⟩
  unfold f__law_drawn_row b__law_drawn_row
  have er := r_range1 (B := B) (B1 := B) (m := mCons (mG (mVar 2)) mNil) (env := [some .bag, some (.d (eM m)), some (.d (.int (n : Int))), some (.d (eT [])), some (.d (eI 0)), none, none, none]) (j := (n : Int)) (r_cons (r_g (r_var rfl)) r_nil) ⟨by omega, by omega⟩
  rw [Int.toNat_natCast] at er
  exact s_fn (s_seq (B1 := B) (e1 := [some .bag, some (.d (eM m)), some (.d (.int (n : Int))), some (.d (eT [])), some (.d (eI 0)), none, none, none]) rfl (s_seq (s_for1 er e) (s_ret (r_var (x := eT w') rfl))))
/-! sizes and shapes -/
theorem nds_map {α : Type} (f : α → PD) (c : Nat) : ∀ xs : List α, (∀ x ∈ xs, nd (f x) ≤ c) → nds (xs.map f) ≤ c * xs.length
  | [], _ => by simp [nds]
  | x :: r, h => by
    have h1 := h x List.mem_cons_self
    have ih := nds_map f c r fun y hy => h y (List.mem_cons_of_mem _ hy)
    rw [List.map_cons, List.length_cons, Nat.mul_succ]
    show nd (f x) + nds (r.map f) ≤ _
    omega
theorem nd_eT (w : List Str) : nd (eT w) ≤ 1 + w.length := by
  have := nds_map PyData.str 1 w fun x _ => by simp [nd]
  show 1 + nds (w.map PyData.str) ≤ _
  omega
theorem nd_eN (es : List Nat) : nd (eNT es) ≤ 1 + es.length := by
  have := nds_map eI 1 es fun x _ => by simp [nd, eI]
  show 1 + nds (es.map eI) ≤ _
  omega
theorem nd_eG (g : List Str × List Str) : nd (eG g) ≤ 3 + g.1.length + g.2.length := by
  have h1 := nd_eT g.1
  have h2 := nd_eT g.2
  show 1 + (nd (eT g.1) + (nd (eT g.2) + 0)) ≤ _
  omega
theorem nd_list {ds : List PD} {n : Nat} (h : nds ds ≤ n) (hn : n + 1 ≤ 16777216) : nd (.list ds) ≤ sizeLine := by
  rw [sizeLine_eq]
  show 1 + nds ds ≤ 2 ^ 24
  omega
theorem cl_rows {rows : List (List Str)} (h : ∀ w ∈ rows, ∀ x ∈ w, okS x) : clP 2 (.tuple (rows.map eT)) = true := by
  show (rows.map eT).all (clP 1) = true
  rw [List.all_eq_true]
  intro d hd
  obtain ⟨w, hw, rfl⟩ := List.mem_map.mp hd
  exact clP_row (n := 0) (h w hw)
theorem clG {g : List Str × List Str} (h1 : ∀ x ∈ g.1, okS x) (h2 : ∀ x ∈ g.2, okS x) : clP 2 (eG g) = true := by
  show [eT g.1, eT g.2].all (clP 1) = true
  rw [List.all_cons, List.all_cons, clP_row (n := 0) h1, clP_row (n := 0) h2]; rfl
theorem cl_gs {gs : List (List Str × List Str)} (h : ∀ g ∈ gs, (∀ x ∈ g.1, okS x) ∧ ∀ x ∈ g.2, okS x) : (gs.map eG).all (clP 2) = true := by
  rw [List.all_eq_true]
  intro d hd
  obtain ⟨g, hg, rfl⟩ := List.mem_map.mp hd
  exact clG (h g hg).1 (h g hg).2
theorem FT_ok {m : Mach} (G : Good m) {g : List Str × List Str} (h : FT m g) : (∀ x ∈ g.1, okS x) ∧ (∀ x ∈ g.2, okS x) ∧ g.1.length ≤ 2 ∧ g.2.length ≤ 3 := by
  obtain ⟨w, pre, i, l, j, P, h1, h2, rfl⟩ := h
  have L := P.len G
  have hw := P.okS G
  refine ⟨fun x hx => hw x (List.mem_of_mem_take hx), fun x hx => ?_, by simp; omega, by simp; omega⟩
  rcases List.mem_append.mp hx with hx | hx
  · exact hw x (List.mem_of_mem_drop hx)
  · rw [List.mem_singleton] at hx; rw [hx]; exact okS_abc _ (mv_lt G h1).2.1
theorem firsts_FT {m : Mach} (G : Good m) {g : List Str × List Str} (h : g ∈ firsts m) : FT m g := by
  obtain ⟨w, hw, h⟩ := List.mem_flatMap.mp h
  obtain ⟨pre, i, P⟩ := (mem_shorts G w).mp hw
  rw [tn_of P] at h
  obtain ⟨q, hq, rfl⟩ := List.mem_map.mp h
  obtain ⟨h1, h2⟩ := List.mem_filter.mp hq
  exact ⟨w, pre, i, q.1, q.2, P, h1, of_decide_eq_true h2, rfl⟩
theorem firsts_len {m : Mach} (G : Good m) : (firsts m).length ≤ 771 := by
  have sl := shorts_len G
  have : ∀ rows : List (List Str), (rows.flatMap (tn m)).length ≤ 3 * rows.length := by
    intro rows
    induction rows with
    | nil => simp
    | cons w r ih =>
      have h1 : (tn m w).length ≤ 3 := Nat.le_trans (tnOf_len _ _ _) (mv_len G _)
      rw [List.flatMap_cons, List.length_append, List.length_cons]; omega
  have := this (shorts m)
  unfold firsts
  omega
end DL
set_option Elab.async false
set_option linter.all false
set_option maxRecDepth 100000
set_option maxHeartbeats 4000000
/-! RQR: k12's body, part by part. -/
namespace DL
open PySem L2
abbrev LF (a0 t mc sh fi tr ro en ke go th gd so lt : Option SV) : EnvM := [a0, some .bag, t, mc, sh, fi, tr, ro, en, ke, go, th, gd, so, lt, none]
theorem alikes {m1 m2 : EnvM → Bag → Res PD} {env : EnvM} {B : Bag} {d : PD} {mr : EnvM → Bag → SRes} (h1 : m1 env B = .ok d B) (h2 : m2 env B = .ok d B) (ho : okA d = true) (hn : nd d ≤ sizeLine) :
    mIf (mNot (mTru truP (mCall 2 f__law_alike (mCons (mG m1) (mCons (mG m2) mNil))))) mr mSkip env B = .nx env B :=
  s_ifF (r_not (r_truB (k := true) (r_call (r_cons (r_g h1) (r_cons (r_g h2) r_nil)) rfl (alike_self ho hn B)))) s_skip
theorem okA_cl {n : Nat} {d : PD} (h : clP n d = true) (hn : n ≤ 64 := by decide) : okA d = true := clP_okA n d hn h
theorem le_size {n : Nat} (h : n ≤ 1000) : n ≤ sizeLine := by rw [sizeLine_eq]; omega
theorem next_ok {m : Mach} (G : Good m) (s : List Str) (l : Str) : okA (nextL m s l) = true ∧ nd (nextL m s l) ≤ sizeLine := by
  unfold nextL
  cases h : (run m 0 (s ++ [l])).isSome with
  | false => exact ⟨rfl, by show 1 ≤ sizeLine; decide⟩
  | true =>
    obtain ⟨⟨pre, i, P, _⟩, _, _⟩ := wk_ok G (s ++ [l]) [] [] 0 [] (Pth.nil m) (fun g hg => by cases hg) h
    have L := P.len G
    have := nd_eT (wk m [] [] 0 [] (s ++ [l])).1
    exact ⟨okA_cl (clP_row (n := 0) (P.okS G)), le_size (by show nd (eT _) ≤ _; omega)⟩
theorem letter_turn {m : Mach} (G : Good m) {s : List Str} {l : Str} (hs : ∀ x ∈ s, okS x) (hl : okS l) (hn : s.length ≤ 100) (a0 t sh fi tr ro en ke go th gd : Option SV) (B : Bag) :
    ∃ gd', mSeq ml_20 ml_22 (LF a0 t (some (.d (eM m))) sh fi tr ro en ke go th gd (some (.d (eT s))) (some (.d (.str l)))) B = .nx (LF a0 t (some (.d (eM m))) sh fi tr ro en ke go th gd' (some (.d (eT s))) (some (.d (.str l)))) B := by
  have hw : ∀ x ∈ s ++ [l], okS x := by
    intro x hx
    rcases List.mem_append.mp hx with h | h
    · exact hs x h
    · rw [List.mem_singleton] at h; rw [h]; exact hl
  have h0 : 0 < m.length := by have := G.len1; omega
  have N := next_ok G s l
  have ea : ∀ gd, mOp addP (mVar 13) (mTup (mCons (mG (mVar 14)) mNil)) (LF a0 t (some (.d (eM m))) sh fi tr ro en ke go th gd (some (.d (eT s))) (some (.d (.str l)))) B = .ok (eT (s ++ [l])) B := fun gd => add_str (r_var (x := eT s) rfl) (r_var (x := .str l) rfl) (by omega)
  refine ⟨some (.d (.bool (run m 0 (s ++ [l])).isSome)), s_seq (s_set (r_b (r_cmp (r_call (r_cons (r_g (r_var (x := eM m) rfl)) (r_cons (r_g r_c) (r_cons (r_g (ea gd)) r_nil))) rfl (law_end_ok G (i := 0) h0 hw B)) r_c optP_none)) rfl) ?_⟩
  refine alikes (d := nextL m s l) (r_callE (np := 3) (r_cons (r_g (r_var (x := eM m) rfl)) (r_cons (r_g (r_var (x := eT s) rfl)) (r_cons (r_g (r_var (x := .str l) rfl)) r_nil))) rfl (next_left_ok G hs hl hn B)) ?_ N.1 N.2
  unfold nextL
  cases h : (run m 0 (s ++ [l])).isSome with
  | false => exact r_ifF (r_truB (k := false) (r_var rfl)) r_c
  | true => exact r_ifT (r_truB (k := true) (r_var rfl)) (r_op (r_call (r_cons (r_g (r_var (x := eM m) rfl)) (r_cons (r_g (ea _)) r_nil)) rfl (law_walk_ok G (by simp; omega) h B)) r_c (atI0 _ _))
def ZZ : List Str := ["zz"]
theorem ml23_ok {m : Mach} (G : Good m) {s : List Str} (hs : ∀ x ∈ s, okS x) (hn : s.length ≤ 100) (a0 t sh fi tr ro en ke go th gd lt : Option SV) (B : Bag) :
    ∃ gd' lt', ml_23 (LF a0 t (some (.d (eM m))) sh fi tr ro en ke go th gd (some (.d (eT s))) lt) B = .nx (LF a0 t (some (.d (eM m))) sh fi tr ro en ke go th gd' (some (.d (eT s))) lt') B := by
  obtain ⟨ls, h1, h9, h2⟩ := law_letters_ok G
  have hk : ∀ x ∈ ls ++ ZZ, okS x := by
    intro x hx
    rcases List.mem_append.mp hx with h | h
    · exact okS_abc x (flt_abc G ((h1 x).mp h))
    · unfold ZZ at h; rw [List.mem_singleton] at h; rw [h]; exact okS_zz
  have e1 : mSeqOfS (mOp addP (mCall 1 f__law_letters (mCons (mG (mVar 3)) mNil)) (mLst (mCons (mG (mC (.str "zz"))) mNil))) (LF a0 t (some (.d (eM m))) sh fi tr ro en ke go th gd (some (.d (eT s))) lt) B = .ok ((ls ++ ZZ).map PyData.str) B := by
    refine r_seqL (r_op (r_call (r_cons (r_g (r_var (x := eM m) rfl)) r_nil) rfl (h2 B)) (r_lst (r_cons (r_g r_c) r_nil) rfl (by decide)) ?_)
    have ez : addP (.list (ls.map PyData.str)) (.list (ZZ.map PyData.str)) = some (.list ((ls ++ ZZ).map PyData.str)) := by rw [addP_list (by simp [ZZ]; omega), List.map_append]
    exact ez
  obtain ⟨e2, h3, I⟩ := loop_fold (g := mgName 14) (B := B) (body := mSeq ml_20 ml_22) PyData.str (fun (_ : Unit) _ => ()) (fun _ env => ∃ gd' lt', env = LF a0 t (some (.d (eM m))) sh fi tr ro en ke go th gd' (some (.d (eT s))) lt') (xs := ls ++ ZZ) (s := ()) (env := LF a0 t (some (.d (eM m))) sh fi tr ro en ke go th gd (some (.d (eT s))) lt)
    (fun x hx _ env hI => by
      obtain ⟨gd', lt', rfl⟩ := hI
      obtain ⟨gd2, e⟩ := letter_turn G hs (hk x hx) hn a0 t sh fi tr ro en ke go th gd' B
      exact ⟨_, rfl, _, e, _, _, rfl⟩) ⟨gd, lt, rfl⟩
  obtain ⟨gd', lt', rfl⟩ := I
  exact ⟨gd', lt', s_for1 e1 h3⟩
def RF : PD := .tuple [.str "refused", .str "row"]
theorem lam_ok {mm : EnvM → Bag → Res PD} {env : EnvM} {B : Bag} (h : mm env B = .exc "Refused" [("why", .str "row")] B) : mLam g__law_caught mm env B = .ok RF B := by
  unfold mLam g__law_caught mTold
  rw [h]
  rfl
theorem rf_ne : neP RF RF = some false := by
  have e0 : clP 1 RF = true := by decide +kernel
  rw [neP_cl (n := 1) (m := 1) (d := RF) (e := RF) e0 e0, decide_eq_true rfl]; rfl
/-- what the two readings of one thing tell -/
structure Thing (m : Mach) (d : PD) (g k : Bool) : Prop where
  law : ∀ B, f__law_is_row [.d (eM m), .d d] B = .ok (.bool g) B
  prog : ∀ B, f_is_row [.d (eM m), .d d] B = .ok (.bool g) B
  short : ∀ B, f_is_short [.d (eM m), .d d] B = .ok (.bool (g && k)) B
  due : ∀ a0 t sh fi tr ro en ke go so lt B, g = true → mCmp eqP (mLenSetI (mCall 2 f__law_ends_along (mCons (mG (mVar 3)) (mCons (mG (mVar 11)) mNil)))) (mOp addP (mCa lenP (mCons (mG (mVar 11)) mNil)) (mC (.int 1))) (LF a0 t (some (.d (eM m))) sh fi tr ro en ke go (some (.d d)) (some (.d (.bool g))) so lt) B = .ok k B
theorem thing_turn {m : Mach} {d : PD} {g k : Bool} (T : Thing m d g k) (a0 t sh fi tr ro en ke go gd so lt : Option SV) (B : Bag) :
    mSeq ml_10 (mSeq ml_11 (mSeq ml_13 (mSeq ml_15 ml_17))) (LF a0 t (some (.d (eM m))) sh fi tr ro en ke go (some (.d d)) gd so lt) B = .nx (LF a0 t (some (.d (eM m))) sh fi tr ro en ke go (some (.d d)) (some (.d (.bool g))) (some (.d (.bool (g && k)))) lt) B := by
  have ar : ∀ gd so : Option SV, (mCons (mG (mVar 3)) (mCons (mG (mVar 11)) mNil)) (LF a0 t (some (.d (eM m))) sh fi tr ro en ke go (some (.d d)) gd so lt) B = .ok [.d (eM m), .d d] B := fun _ _ => r_cons (r_g (r_var rfl)) (r_cons (r_g (r_var rfl)) r_nil)
  refine s_seq (s_set (r_call (ar _ _) rfl (T.law B)) rfl) (s_seq (s_set (r_andV (k := g) (k' := k) (r_var rfl) fun hg => r_b (T.due a0 t sh fi tr ro en ke go so lt B hg)) rfl) (s_seq (alikes (r_callE (np := 2) (ar _ _) rfl (T.short B)) (r_var rfl) rfl (by show 1 ≤ sizeLine; decide)) ?_))
  cases g with
  | true => exact s_seq (s_ifF (r_andF (r_not (r_truB (k := true) (r_var rfl)))) s_skip) (s_ifF (r_andF (r_not (r_truB (k := true) (r_var rfl)))) s_skip)
  | false =>
    have rf : ∀ env, (mTup (mCons (mG (mC (.str "refused"))) (mCons (mG (mC (.str "row"))) mNil))) env B = .ok RF B := fun env => r_tup (ds := [.str "refused", .str "row"]) (r_cons (r_g r_c) (r_cons (r_g r_c) r_nil)) rfl (by decide)
    exact s_seq (s_ifF (r_andT (r_not (r_truB (k := false) (r_var rfl))) (r_cmp (lam_ok (r_callE (np := 2) (ar _ _) rfl (left_out_bad (T.prog B)))) (rf _) rf_ne)) s_skip) (s_ifF (r_andT (r_not (r_truB (k := false) (r_var rfl))) (r_cmp (lam_ok (r_callE (np := 2) (ar _ _) rfl (standings_bad (T.prog B)))) (rf _) rf_ne)) s_skip)
end DL
set_option Elab.async false
set_option linter.all false
set_option maxRecDepth 100000
set_option maxHeartbeats 4000000
/-! RQS: k12's things, a trial's turn, the law. -/
namespace DL
open PySem L2
theorem thing_flat {m : Mach} {d : PD} (h : isTupB d = false) : Thing m d false false :=
  ⟨fun B => law_row_short h B, fun B => is_row_bad (word_short h B).1, fun B => is_short_bad (is_row_bad (word_short h B).1), fun _ _ _ _ _ _ _ _ _ _ _ _ z => by cases z⟩
theorem unI_eI : ∀ es : List Nat, unI (es.map eI) = some (es.map fun n : Nat => (n : Int))
  | [] => rfl
  | n :: r => by rw [List.map_cons]; show (unI (r.map eI)).map (_ :: ·) = _; rw [unI_eI r]; rfl
theorem dedup_nd (es : List Nat) : (dedupK (es.map fun n : Nat => (n : Int))).length = es.length ↔ es.Nodup := by
  constructor
  · intro z
    have z1 : ((es.map fun n : Nat => (n : Int)).foldl addK []).length = ([] : List Int).length + (es.map fun n : Nat => (n : Int)).length := by
      rw [List.length_map]; simpa [dedupK] using z
    have z2 := foldK_full _ _ z1 List.nodup_nil
    rw [List.nil_append] at z2
    exact List.Pairwise.of_map _ (fun a b hab e => hab (by rw [e])) z2
  · intro z
    have z2 : (es.map fun n : Nat => (n : Int)).Nodup := List.Pairwise.map _ (fun a b hab e => hab (by omega)) z
    have z3 := foldK_nd _ [] (by rw [List.nil_append]; exact z2)
    show (List.foldl addK [] _).length = _
    rw [z3]; simp
theorem r_lenSet {ma : EnvM → Bag → Res PD} {env : EnvM} {B B1 : Bag} {ds : List PD} {ns : List Int} (h : ma env B = .ok (.list ds) B1) (hu : unI ds = some ns) (hl : ns.length ≤ 4000) : mLenSetI ma env B = .ok (.int ((dedupK ns).length : Int)) B1 := by
  unfold mLenSetI; rw [h]; simp only [Res.bind, hu, if_pos hl]
theorem thing_word {m : Mach} (G : Good m) {w : List Str} (hw : ∀ x ∈ w, okS x) (hl : w.length ≤ 50) : Thing m (eT w) (run m 0 w).isSome (decide (ends m 0 w).Nodup) := by
  refine ⟨fun B => law_is_row_ok G hw (by omega) B, fun B => is_row_ok G hw (by omega) B, fun B => ?_, fun a0 t sh fi tr ro en ke go so lt B hg => ?_⟩
  · cases h : (run m 0 w).isSome with
    | true =>
      have := is_short_ok G hw (by omega) h (by have := ends_len h; omega) B
      rw [Bool.true_and]; exact this
    | false =>
      have hr := is_row_ok G hw (by omega) B
      rw [h] at hr
      rw [Bool.false_and]
      exact is_short_bad hr
  · have el := ends_len hg
    refine r_cmp (r_lenSet (ns := (ends m 0 w).map fun n : Nat => (n : Int)) (r_call (r_cons (r_g (r_var (x := eM m) rfl)) (r_cons (r_g (r_var (x := eT w) rfl)) r_nil)) rfl (ends_along_ok G hw (by omega) hg B)) (unI_eI _) (by rw [List.length_map]; omega)) (r_op (r_ca (r_cons (r_g (r_var (x := eT w) rfl)) r_nil) (lenT w)) r_c (addP_int _ _)) ?_
    rw [eqP_int]
    congr 1
    refine decide_eq_decide.mpr ?_
    rw [← dedup_nd, el]
    omega
theorem ml18_ok {m : Mach} (G : Good m) {w kp : List Str} (hw : ∀ x ∈ w, okS x) (hl : w.length ≤ 40) (hk : ∀ x ∈ kp, okS x) (hl2 : kp.length ≤ 40) (a0 t sh fi tr en go th gd so lt : Option SV) (B : Bag) :
    ∃ th' gd' so', ml_18 (LF a0 t (some (.d (eM m))) sh fi tr (some (.d (eT w))) en (some (.d (eT kp))) go th gd so lt) B = .nx (LF a0 t (some (.d (eM m))) sh fi tr (some (.d (eT w))) en (some (.d (eT kp))) go th' gd' so' lt) B := by
  have hz : ∀ x ∈ w ++ ZZ, okS x := by
    intro x hx
    rcases List.mem_append.mp hx with h | h
    · exact hw x h
    · unfold ZZ at h; rw [List.mem_singleton] at h; rw [h]; exact okS_zz
  have hz1 : ∀ x ∈ ZZ, okS x := fun x hx => hz x (List.mem_append_right _ hx)
  have e1 : mSeqOfS (mTup (mCons (mG (mVar 7)) (mCons (mG (mVar 9)) (mCons (mG (mCa listP (mCons (mG (mVar 7)) mNil))) (mCons (mG (mC .none)) (mCons (mG (mTup (mCons (mG (mC (.str "zz"))) mNil))) (mCons (mG (mOp addP (mVar 7) (mTup (mCons (mG (mC (.str "zz"))) mNil)))) (mCons (mG (mC (.int 5))) mNil)))))))) (LF a0 t (some (.d (eM m))) sh fi tr (some (.d (eT w))) en (some (.d (eT kp))) go th gd so lt) B = .ok [eT w, eT kp, .list (w.map PyData.str), .none, eT ZZ, eT (w ++ ZZ), .int 5] B :=
    r_seqT (r_tup (ds := [eT w, eT kp, .list (w.map PyData.str), .none, eT ZZ, eT (w ++ ZZ), .int 5]) (r_cons (r_g (r_var rfl)) (r_cons (r_g (r_var rfl)) (r_cons (r_g (r_ca (z := .list (w.map PyData.str)) (r_cons (r_g (r_var (x := eT w) rfl)) r_nil) rfl)) (r_cons (r_g r_c) (r_cons (r_g (r_tup (ds := [.str "zz"]) (r_cons (r_g r_c) r_nil) rfl (by show 1 ≤ sizeLine; decide))) (r_cons (r_g (add_str (r_var (x := eT w) rfl) r_c (by omega))) (r_cons (r_g r_c) r_nil))))))) rfl (by show 7 ≤ sizeLine; decide))
  obtain ⟨e2, h3, I⟩ := loop_fold (g := mgName 11) (B := B) (body := mSeq ml_10 (mSeq ml_11 (mSeq ml_13 (mSeq ml_15 ml_17)))) (fun d : PD => d) (fun (_ : Unit) _ => ()) (fun _ env => ∃ th' gd' so', env = LF a0 t (some (.d (eM m))) sh fi tr (some (.d (eT w))) en (some (.d (eT kp))) go th' gd' so' lt) (xs := [eT w, eT kp, .list (w.map PyData.str), .none, eT ZZ, eT (w ++ ZZ), .int 5]) (s := ()) (env := LF a0 t (some (.d (eM m))) sh fi tr (some (.d (eT w))) en (some (.d (eT kp))) go th gd so lt)
    (fun x hx _ env hI => by
      obtain ⟨th', gd', so', rfl⟩ := hI
      have T : ∃ g k, Thing m x g k := by
        simp only [List.mem_cons, List.not_mem_nil, or_false] at hx
        rcases hx with h | h | h | h | h | h | h
        · rw [h]; exact ⟨_, _, thing_word G hw (by omega)⟩
        · rw [h]; exact ⟨_, _, thing_word G hk (by omega)⟩
        · rw [h]; exact ⟨_, _, thing_flat rfl⟩
        · rw [h]; exact ⟨_, _, thing_flat rfl⟩
        · rw [h]; exact ⟨_, _, thing_word G hz1 (by decide)⟩
        · rw [h]; exact ⟨_, _, thing_word G hz (by simp [ZZ]; omega)⟩
        · rw [h]; exact ⟨_, _, thing_flat rfl⟩
      obtain ⟨g, k, T⟩ := T
      exact ⟨_, rfl, _, thing_turn T a0 t sh fi tr _ en _ go gd' so' lt B, _, _, _, rfl⟩) ⟨th, gd, so, rfl⟩
  obtain ⟨th', gd', so', rfl⟩ := I
  rw [List.map_id'] at h3
  exact ⟨th', gd', so', s_for1 e1 h3⟩
end DL
set_option Elab.async false
set_option linter.all false
set_option maxRecDepth 100000
set_option maxHeartbeats 4000000
/-! RQT: a trial's turn of k12; the law. -/
namespace DL
open PySem L2
theorem gone_len {m : Mach} : ∀ gs : List (List Str × List Str), (∀ g ∈ gs, FT m g) → gs.length ≤ sumL gs
  | [], _ => Nat.zero_le _
  | g :: r, h => by
    have ih := gone_len r fun x hx => h x (List.mem_cons_of_mem _ hx)
    obtain ⟨w, pre, i, l, j, P, h1, h2, rfl⟩ := h g List.mem_cons_self
    unfold sumL at ih ⊢
    simp only [List.map_cons, List.sum_cons, List.length_cons, List.length_append, List.length_nil]
    omega
theorem eT_inj {w v : List Str} (h : eT w = eT v) : w = v := by
  have h := PyData.tuple.inj h
  exact (List.map_inj_right fun a b e => PyData.str.inj e).mp h
theorem rows_okS {m : Mach} (G : Good m) : ∀ w ∈ shorts m, ∀ x ∈ w, okS x := by
  intro w hw
  obtain ⟨pre, i, P⟩ := (mem_shorts G w).mp hw
  exact P.okS G
theorem in_shortsT {m : Mach} (G : Good m) {w : List Str} (hw : w ∈ shorts m) : inAP (eT w) (.tuple ((shorts m).map eT)) = some true := by
  have hc : ((shorts m).map eT).all (clP 1) = true := by
    rw [List.all_eq_true]
    intro d hd
    obtain ⟨v, hv, rfl⟩ := List.mem_map.mp hd
    exact clP_row (n := 0) (rows_okS G v hv)
  rw [inAP_tup (n := 1) (m := 1) (d := eT w) (clP_row (n := 0) (rows_okS G w hw)) hc, decide_eq_true (List.mem_map_of_mem hw)]
theorem in_firstsT {m : Mach} (G : Good m) {g : List Str × List Str} (hg : g ∈ firsts m) : inAP (eG g) (.tuple ((firsts m).map eG)) = some true := by
  have ok : ∀ k ∈ firsts m, (∀ x ∈ k.1, okS x) ∧ ∀ x ∈ k.2, okS x := fun k hk => by
    have := FT_ok G (firsts_FT G hk)
    exact ⟨this.1, this.2.1⟩
  rw [inAP_tup (n := 2) (m := 2) (d := eG g) (clG (ok g hg).1 (ok g hg).2) (cl_gs ok), decide_eq_true (List.mem_map_of_mem hg)]
theorem some_short {m : Mach} (G : Good m) (B : Bag) (hc : JB B) : ∃ (w : List Str) (B' : Bag), f__law_some [.bag, .d (.list ((shorts m).map eT))] B = .ok (eT w) B' ∧ w ∈ shorts m ∧ JB B' := by
  have sl := shorts_len G
  obtain ⟨d, B', e, hm, c⟩ := some_ok ((shorts m).map eT) (by simp [shorts]) (by simp; omega) B hc
  obtain ⟨w, hw, rfl⟩ := List.mem_map.mp hm
  exact ⟨w, B', e, hw, c⟩
/-- the last standing -/
theorem end_last {m : Mach} {w : List Str} {i : Nat} (h : run m 0 w = some i) : ixP (eNL (ends m 0 w)) (.int (-1)) = some (eI i) := by
  obtain ⟨pre, e, _⟩ := ends_last h
  rw [e]; exact lastL pre i
noncomputable abbrev bodyT : EnvM → Bag → SRes := mSeq ml_4 (mSeq ml_5 (mSeq ml_7 (mSeq ml_9 (mSeq ml_18 (mSeq ml_19 ml_23)))))
theorem trial_turn {m : Mach} (G : Good m) (a0 t tr ro en ke go th gd so lt : Option SV) (B : Bag) (hc : JB B) :
    ∃ ro' en' ke' go' th' gd' so' lt' B', bodyT (LF a0 t (some (.d (eM m))) (some (.d (.tuple ((shorts m).map eT)))) (some (.d (.tuple ((firsts m).map eG)))) tr ro en ke go th gd so lt) B = .nx (LF a0 t (some (.d (eM m))) (some (.d (.tuple ((shorts m).map eT)))) (some (.d (.tuple ((firsts m).map eG)))) tr ro' en' ke' go' th' gd' so' lt') B' ∧ JB B' := by
  obtain ⟨r, B0, et, t1, t2, c0⟩ := take_ok B 13 (by decide) (by decide) hc
  have hr : ∃ n : Nat, n ≤ 12 ∧ r = (n : Int) := ⟨r.toNat, by omega, by omega⟩
  obtain ⟨n, hn, rfl⟩ := hr
  obtain ⟨w, B1, e4, h, hl, c1⟩ := drawn_row_ok G hn B0 c0
  have hw := run_okS G (i := 0) h
  have el := ends_len h
  have h0 : 0 < m.length := by have := G.len1; omega
  obtain ⟨⟨pre, i, P, hrun⟩, hg, hsum⟩ := wk_ok G w [] [] 0 [] (Pth.nil m) (fun g hg => by cases hg) h
  have L := P.len G
  have b6 := law_walk_ok G (by omega) h B1
  have b8 := left_out_ok G hw (by omega) h B1
  have b9 := turns_in_ok G hw (by omega) h B1
  have ea := ends_along_ok G hw (by omega) h B1
  have stand := standings_ok G hw (by omega) h B1
  generalize hkd : wk m [] [] 0 [] w = kd at *
  obtain ⟨lf, gs⟩ := kd
  have hsum : lf.length + sumL gs = 0 + 0 + w.length := hsum
  have gl := gone_len gs hg
  have LL := P.okS G
  have ksh : lf ∈ shorts m := (mem_shorts G lf).mpr ⟨pre, i, P⟩
  have gsok : ∀ g ∈ gs, (∀ x ∈ g.1, okS x) ∧ ∀ x ∈ g.2, okS x := fun g hm => by
    have := FT_ok G (hg g hm)
    exact ⟨this.1, this.2.1⟩
  obtain ⟨th1, gd1, so1, e18⟩ := ml18_ok (B := B1) G hw (by omega) (kp := lf) LL (by have := L.1; have := L.2.1; show lf.length ≤ 40; omega) a0 t (some (.d (.tuple ((shorts m).map eT)))) (some (.d (.tuple ((firsts m).map eG)))) tr (some (.d (eNL (ends m 0 w)))) (some (.d (.tuple (gs.map eG)))) th gd so lt
  obtain ⟨sw, B2, e19, hsw, c2⟩ := some_short G B1 c1
  obtain ⟨spre, si, SP⟩ := (mem_shorts G sw).mp hsw
  have SL := SP.len G
  obtain ⟨gd2, lt2, e23⟩ := ml23_ok (B := B2) G (SP.okS G) (by omega) a0 t (some (.d (.tuple ((shorts m).map eT)))) (some (.d (.tuple ((firsts m).map eG)))) tr (some (.d (eT w))) (some (.d (eNL (ends m 0 w)))) (some (.d (eT lf))) (some (.d (.tuple (gs.map eG)))) th1 gd1 lt
  refine ⟨some (.d (eT w)), some (.d (eNL (ends m 0 w))), some (.d (eT lf)), some (.d (.tuple (gs.map eG))), th1, gd2, some (.d (eT sw)), lt2, B2, ?_, c2⟩
  refine s_seq (B1 := B1) (e1 := LF a0 t (some (.d (eM m))) (some (.d (.tuple ((shorts m).map eT)))) (some (.d (.tuple ((firsts m).map eG)))) tr (some (.d (eT w))) en ke go th gd so lt) (s_set (r_call (r_cons (r_bag rfl) (r_cons (r_g (r_var (x := eM m) rfl)) (r_cons (r_g (r_call (r_cons (r_bag rfl) (r_cons (r_g r_c) r_nil)) rfl et)) r_nil))) rfl e4) rfl) ?_
  refine s_seq (B1 := B1) (e1 := LF a0 t (some (.d (eM m))) (some (.d (.tuple ((shorts m).map eT)))) (some (.d (.tuple ((firsts m).map eG)))) tr (some (.d (eT w))) (some (.d (eNL (ends m 0 w)))) (some (.d (eT lf))) (some (.d (.tuple (gs.map eG)))) th gd so lt) ?_ ?_
  · exact s_set (r_tup (ds := [eNL (ends m 0 w), .tuple [eT lf, .tuple (gs.map eG)]]) (r_cons (r_g (r_call (r_cons (r_g (r_var (x := eM m) rfl)) (r_cons (r_g (r_var (x := eT w) rfl)) r_nil)) rfl ea)) (r_cons (r_g (r_call (r_cons (r_g (r_var (x := eM m) rfl)) (r_cons (r_g (r_var (x := eT w) rfl)) r_nil)) rfl b6)) r_nil)) rfl (by show 2 ≤ sizeLine; decide)) rfl
  have ar : (mCons (mG (mVar 3)) (mCons (mG (mVar 7)) mNil)) (LF a0 t (some (.d (eM m))) (some (.d (.tuple ((shorts m).map eT)))) (some (.d (.tuple ((firsts m).map eG)))) tr (some (.d (eT w))) (some (.d (eNL (ends m 0 w)))) (some (.d (eT lf))) (some (.d (.tuple (gs.map eG)))) th gd so lt) B1 = .ok [.d (eM m), .d (eT w)] B1 := r_cons (r_g (r_var rfl)) (r_cons (r_g (r_var rfl)) r_nil)
  refine s_seq (B1 := B1) (e1 := LF a0 t (some (.d (eM m))) (some (.d (.tuple ((shorts m).map eT)))) (some (.d (.tuple ((firsts m).map eG)))) tr (some (.d (eT w))) (some (.d (eNL (ends m 0 w)))) (some (.d (eT lf))) (some (.d (.tuple (gs.map eG)))) th gd so lt) ?_ ?_
  · refine alikes (r_lst (ds := [eNT (ends m 0 w), eT lf, .tuple (gs.map eG)]) (r_cons (r_g (r_callE (np := 2) ar rfl stand)) (r_cons (r_g (r_callE (np := 2) ar rfl b8)) (r_cons (r_g (r_callE (np := 2) ar rfl b9)) r_nil))) rfl (by show 3 ≤ sizeLine; decide)) (r_lst (ds := [eNT (ends m 0 w), eT lf, .tuple (gs.map eG)]) (r_cons (r_g (r_ca (z := eNT (ends m 0 w)) (r_cons (r_g (r_var (x := eNL (ends m 0 w)) rfl)) r_nil) rfl)) (r_cons (r_g (r_var rfl)) (r_cons (r_g (r_var rfl)) r_nil))) rfl (by show 3 ≤ sizeLine; decide)) ?_ ?_
    · have o1 : okA (eNT (ends m 0 w)) = true := okA_cl (n := 1) (ints_all (n := 0) _)
      have o2 : okA (eT lf) = true := okA_cl (clP_row (n := 0) LL)
      have o3 : okA (.tuple (gs.map eG)) = true := okA_cl (n := 3) (cl_gs gsok)
      show (okA _ && (okA _ && (okA _ && true))) = true
      rw [o1, o2, o3]; rfl
    · have n1 := nd_eN (ends m 0 w)
      have n2 := nd_eT lf
      have n3 := nds_map eG 8 gs fun g hm => by
        have := nd_eG g
        have := (FT_ok G (hg g hm)).2.2
        omega
      refine nd_list (n := 1000) ?_ (by decide)
      show nd _ + (nd _ + ((1 + nds (gs.map eG)) + 0)) ≤ 1000
      have hlf : lf.length ≤ 12 := by omega
      omega
  refine s_seq (B1 := B1) (e1 := LF a0 t (some (.d (eM m))) (some (.d (.tuple ((shorts m).map eT)))) (some (.d (.tuple ((firsts m).map eG)))) tr (some (.d (eT w))) (some (.d (eNL (ends m 0 w)))) (some (.d (eT lf))) (some (.d (.tuple (gs.map eG)))) th gd so lt) (s_ifF (B1 := B1) (r_orF (B1 := B1) ?_ (r_orF (B1 := B1) ?_ ?_)) s_skip) (s_seq e18 (s_seq (s_set (r_call (r_cons (r_bag rfl) (r_cons (r_g (r_ca (z := .list ((shorts m).map eT)) (r_cons (r_g (r_var (x := .tuple ((shorts m).map eT)) rfl)) r_nil) rfl)) r_nil)) rfl e19) rfl) e23))
  · have lc := lc_ty (g := mgName 15) (c := mCmp ninAP (mVar 15) (mVar 5)) (m := mC (.int 1)) (B := B1) eG (fun _ => PyData.int 1) (fun _ => false) (xs := gs) (env0 := LF a0 t (some (.d (eM m))) (some (.d (.tuple ((shorts m).map eT)))) (some (.d (.tuple ((firsts m).map eG)))) tr (some (.d (eT w))) (some (.d (eNL (ends m 0 w)))) (some (.d (eT lf))) (some (.d (.tuple (gs.map eG)))) th gd so lt)
      (fun g hm => ⟨_, rfl, r_cmp (r_var (x := eG g) rfl) (r_var (x := .tuple ((firsts m).map eG)) rfl) (ninAP_of (in_firstsT G (FT_firsts G (hg g hm)))), fun z => by cases z⟩)
    have e0 : gs.filter (fun _ => false) = [] := by rw [List.filter_eq_nil_iff]; intro a _ z; cases z
    rw [e0] at lc
    refine r_cmp (r_lc (r_seqT (r_var (x := .tuple (gs.map eG)) rfl)) (len_le (by rw [List.length_map]; omega)) lc) (r_lst r_nil rfl (by decide)) ?_
    have nn : neP (.list []) (.list []) = some false := by rw [neP_cl (n := 1) (m := 1) (d := .list []) (e := .list []) rfl rfl, decide_eq_true rfl]; rfl
    exact nn
  · have eL := law_end_ok G (i := 0) h0 LL B1
    rw [P.run] at eL
    exact r_cmp (r_call (r_cons (r_g (r_var (x := eM m) rfl)) (r_cons (r_g r_c) (r_cons (r_g (r_var (x := eT lf) rfl)) r_nil))) rfl eL) (r_op (r_var (x := eNL (ends m 0 w)) rfl) (r_neg r_c) (end_last hrun)) (by show neP (.int (i : Int)) (.int (i : Int)) = _; rw [neP_int]; simp)
  · exact r_cmp (r_var (x := eT lf) rfl) (r_var (x := .tuple ((shorts m).map eT)) rfl) (ninAP_of (in_shortsT G ksh))
theorem ml24_ok {m : Mach} (G : Good m) (a0 t tr ro en ke go th gd so lt : Option SV) (B : Bag) (hc : JB B) :
    ∃ tr' ro' en' ke' go' th' gd' so' lt' B', ml_24 (LF a0 t (some (.d (eM m))) (some (.d (.tuple ((shorts m).map eT)))) (some (.d (.tuple ((firsts m).map eG)))) tr ro en ke go th gd so lt) B = .nx (LF a0 t (some (.d (eM m))) (some (.d (.tuple ((shorts m).map eT)))) (some (.d (.tuple ((firsts m).map eG)))) tr' ro' en' ke' go' th' gd' so' lt') B' ∧ JB B' := by
  obtain ⟨e2, B2, h1, tr', ro', en', ke', go', th', gd', so', lt', rfl, c2⟩ := s_for (src := mRange1 (mCons (mG (mC (.int 4))) mNil)) (g := mgName 6) (body := bodyT) (B := B) (B1 := B) (env := LF a0 t (some (.d (eM m))) (some (.d (.tuple ((shorts m).map eT)))) (some (.d (.tuple ((firsts m).map eG)))) tr ro en ke go th gd so lt) (fun env B => ∃ tr ro en ke go th gd so lt, env = LF a0 t (some (.d (eM m))) (some (.d (.tuple ((shorts m).map eT)))) (some (.d (.tuple ((firsts m).map eG)))) tr ro en ke go th gd so lt ∧ JB B) (ds := rangeP 0 4)
    (r_range1 (j := 4) (r_cons (r_g r_c) r_nil) (by decide)) ⟨tr, ro, en, ke, go, th, gd, so, lt, rfl, hc⟩ (fun d _ env B hI => by
      obtain ⟨tr, ro, en, ke, go, th, gd, so, lt, rfl, c⟩ := hI
      obtain ⟨ro', en', ke', go', th', gd', so', lt', B', e, c'⟩ := trial_turn G a0 t (some (.d d)) ro en ke go th gd so lt B c
      exact ⟨_, rfl, _, B', e, _, _, _, _, _, _, _, _, _, rfl, c'⟩)
  exact ⟨tr', ro', en', ke', go', th', gd', so', lt', B2, h1, c2⟩
theorem ml3_ok {m : Mach} (G : Good m) (a0 t tr ro en ke go th gd so lt : Option SV) (B : Bag) :
    ml_3 (LF a0 t (some (.d (eM m))) (some (.d (.tuple ((shorts m).map eT)))) (some (.d (.tuple ((firsts m).map eG)))) tr ro en ke go th gd so lt) B = .nx (LF a0 t (some (.d (eM m))) (some (.d (.tuple ((shorts m).map eT)))) (some (.d (.tuple ((firsts m).map eG)))) tr ro en ke go th gd so lt) B := by
  have ok : ∀ k ∈ firsts m, (∀ x ∈ k.1, okS x) ∧ ∀ x ∈ k.2, okS x := fun k hk => by
    have := FT_ok G (firsts_FT G hk)
    exact ⟨this.1, this.2.1⟩
  refine alikes (d := .list [.tuple ((shorts m).map eT), .tuple ((firsts m).map eG)]) (r_lst (ds := [.tuple ((shorts m).map eT), .tuple ((firsts m).map eG)]) (r_cons (r_g (r_call (r_cons (r_g (r_var (x := eM m) rfl)) r_nil) rfl (short_rows_ok G B))) (r_cons (r_g (r_callE (np := 1) (r_cons (r_g (r_var (x := eM m) rfl)) r_nil) rfl (first_turns_ok G B))) r_nil)) rfl (by show 2 ≤ sizeLine; decide))
    (r_lst (ds := [.tuple ((shorts m).map eT), .tuple ((firsts m).map eG)]) (r_cons (r_g (r_var rfl)) (r_cons (r_g (r_var rfl)) r_nil)) rfl (by show 2 ≤ sizeLine; decide)) ?_ ?_
  · have o1 : okA (.tuple ((shorts m).map eT)) = true := okA_cl (n := 2) (cl_rows (rows_okS G))
    have o2 : okA (.tuple ((firsts m).map eG)) = true := okA_cl (n := 3) (cl_gs ok)
    show (okA _ && (okA _ && true)) = true
    rw [o1, o2]; rfl
  · have n1 := nds_map eT 3 (shorts m) fun w hw => by
      obtain ⟨pre, i, P⟩ := (mem_shorts G w).mp hw
      have := P.len G
      have := nd_eT w
      omega
    have n2 := nds_map eG 8 (firsts m) fun g hm => by
      have := nd_eG g
      have := (FT_ok G (firsts_FT G hm)).2.2
      omega
    have l1 := shorts_len G
    have l2 := firsts_len G
    refine nd_list (n := 10000) ?_ (by decide)
    show (1 + nds ((shorts m).map eT)) + ((1 + nds ((firsts m).map eG)) + 0) ≤ 10000
    omega
theorem ml25_ok (a0 t mc sh fi tr ro en ke go th gd so lt : Option SV) (B : Bag) (hc : JB B) : ∃ e2 B2, ml_25 (LF a0 t mc sh fi tr ro en ke go th gd so lt) B = .nx e2 B2 := by
  obtain ⟨e2, B2, h1, _⟩ := s_for (src := mRange1 (mCons (mG (mC (.int 6))) mNil)) (g := mgName 2) (body := mSeq ml_0 (mSeq ml_1 (mSeq ml_3 ml_24))) (B := B) (B1 := B) (env := LF a0 t mc sh fi tr ro en ke go th gd so lt) (fun env B => (∃ t mc sh fi tr ro en ke go th gd so lt, env = LF a0 t mc sh fi tr ro en ke go th gd so lt) ∧ JB B) (ds := rangeP 0 6)
    (r_range1 (j := 6) (r_cons (r_g r_c) r_nil) (by decide)) ⟨⟨t, mc, sh, fi, tr, ro, en, ke, go, th, gd, so, lt, rfl⟩, hc⟩ (fun d _ env B hI => by
      obtain ⟨⟨t, mc, sh, fi, tr, ro, en, ke, go, th, gd, so, lt, rfl⟩, c⟩ := hI
      obtain ⟨m, B1, e0, G, c1⟩ := machine_ok B c
      obtain ⟨tr', ro', en', ke', go', th', gd', so', lt', B2, e24, c2⟩ := ml24_ok G a0 (some (.d d)) tr ro en ke go th gd so lt B1 c1
      refine ⟨_, rfl, _, B2, s_seq (B1 := B1) (e1 := LF a0 (some (.d d)) (some (.d (eM m))) sh fi tr ro en ke go th gd so lt) ?_ (s_seq (B1 := B1) (e1 := LF a0 (some (.d d)) (some (.d (eM m))) (some (.d (.tuple ((shorts m).map eT)))) (some (.d (.tuple ((firsts m).map eG)))) tr ro en ke go th gd so lt) ?_ (s_seq (ml3_ok G _ _ _ _ _ _ _ _ _ _ _ B1) e24)), ⟨_, _, _, _, _, _, _, _, _, _, _, _, _, rfl⟩, c2⟩
      · exact s_set (r_call (r_cons (r_bag rfl) r_nil) rfl e0) rfl
      · exact s_set (r_tup (ds := [.tuple ((shorts m).map eT), .tuple ((firsts m).map eG)]) (r_cons (r_g (r_ca (z := .tuple ((shorts m).map eT)) (r_cons (r_g (r_call (r_cons (r_g (r_var (x := eM m) rfl)) r_nil) rfl (law_short_rows_ok G B1))) r_nil) rfl)) (r_cons (r_g (r_call (r_cons (r_g (r_var (x := eM m) rfl)) r_nil) rfl (law_first_ok G B1))) r_nil)) rfl (by show 2 ≤ sizeLine; decide)) rfl)
  exact ⟨e2, B2, h1⟩
theorem plain_law : ∀ ns : List Int, ns.length ≤ 63 → ∃ B, m_law (envL 16 1) (bag0 ns) = .ret (.bool true) B := by
  intro ns hn
  obtain ⟨e2, B2, h⟩ := ml25_ok none none none none none none none none none none none none none none (bag0 ns) (by show (cellsOf ns).length ≤ 63; unfold cellsOf; rw [List.length_map]; exact hn)
  exact ⟨B2, s_seq h (s_ret r_c)⟩
end DL
set_option Elab.async false
set_option linter.all false
set_option maxRecDepth 100000
set_option maxHeartbeats 4000000
namespace DL
open PySem L2 C8
/-! ### the text by places -/
def top (i : Nat) : Stmt := PySem.Challenge.pw_stillsums_k12_short_rows_and_what_is_lef.main.body.getD i (.Pass ⟨0, 0, 0, 0⟩)
abbrev s__wall : Stmt := top 0
abbrev s_names_of : Stmt := top 6
abbrev s_index_of : Stmt := top 7
abbrev s_moves_at : Stmt := top 8
abbrev s_led : Stmt := top 9
abbrev s_letters_of : Stmt := top 10
abbrev s_end_by : Stmt := top 11
abbrev s_is_word : Stmt := top 12
abbrev s_is_row : Stmt := top 13
abbrev s_check_row : Stmt := top 15
abbrev s_standings_along : Stmt := top 16
abbrev s_is_short : Stmt := top 17
abbrev s_short_rows : Stmt := top 18
abbrev s_walked_out : Stmt := top 19
abbrev s_left_out : Stmt := top 20
abbrev s_turns_in : Stmt := top 21
abbrev s_next_left : Stmt := top 22
abbrev s_first_turns : Stmt := top 23
abbrev s__law_take : Stmt := top 26
abbrev s__law_some : Stmt := top 27
abbrev s__law_mixed : Stmt := top 28
abbrev s__law_alike : Stmt := top 29
abbrev s__law_machine : Stmt := top 30
abbrev s__law_moves : Stmt := top 31
abbrev s__law_letters : Stmt := top 32
abbrev s__law_end : Stmt := top 33
abbrev s__law_is_word : Stmt := top 34
abbrev s__law_is_row : Stmt := top 35
abbrev s__law_short_rows : Stmt := top 36
abbrev s__law_ends_along : Stmt := top 38
abbrev s__law_walk : Stmt := top 39
abbrev s__law_first : Stmt := top 40
abbrev s__law_drawn_row : Stmt := top 41
abbrev s__law_caught : Stmt := top 37
abbrev s_law : Stmt := top 42
abbrev s__law_bag : Stmt := top 25
structure Txt (K : Fg) (mg : Str → Option Value) : Prop where
  abs : mg "abs" = none
  all : mg "all" = none
  bool : mg "bool" = none
  dict : mg "dict" = none
  int : mg "int" = none
  isinstance : mg "isinstance" = none
  len : mg "len" = none
  list : mg "list" = none
  range : mg "range" = none
  set : mg "set" = none
  sorted : mg "sorted" = none
  str : mg "str" = none
  tuple : mg "tuple" = none
  zip : mg "zip" = none
  MOST_LONG : GC K mg "MOST_LONG" (.int 400) d_MOST_LONG
section
variable {P : Program} {w : World} {K : Fg} {mg : Str → Option Value} {base : Heap}
theorem sc__law_caught : FnScope ["act", "e"] ["act"] (fnScope s__law_caught) := fnScope_by (by decide +kernel)
theorem gv__law_caught {X : Cx} {g : Addr} {C_Refused fI_Refused cc_Refused cda_Refused : Addr} (X_Refused : PySem.OwnRefused.Txt P K mg C_Refused fI_Refused cc_Refused cda_Refused) (hK : X.K = K) (hM : X.mg = mg) : ∀ cdv, LamX.GivesTo X ["act", "e"] "_law_caught" (fnScope s__law_caught) g cdv (fnBody s__law_caught) "act" (X.env.qual ++ "<lambda>") (TDeed K mg g__law_caught) := by
  subst hK hM
  intro cdv
  exact gives_told X.K X.mg (p11 := ⟨0, 0, 0, 0⟩) (i := 1) (th := fun a cls d => (tCons (tC (.str "refused")) (tCons (tBy C_Refused "why" a cls d (tVarL 2 1)) tNil))) (fun s H => (hd_strM (hd_byM (X := ToldX X ["act", "e"] "_law_caught" (fnScope s__law_caught) g cdv s H) (i := 1) (n := "e") X_Refused.ga X_Refused.gg X_Refused.exC X_Refused.hdC X_Refused.at_why hd_nilM))) sc__law_caught.nd (by decide) X_Refused.gC X_Refused.te (fun f => rfl)
theorem sc__wall : FnScope ["k"] ["k"] (fnScope s__wall) := fnScope_by (by decide +kernel)
theorem ok__wall {f : Addr} {fd : FuncData} (F : Def K mg "_wall" s__wall f fd) (b : Binds K fd ["k"] []) (T : Txt K mg)  : Cal P w K mg base 1 "_wall" (SpF K mg 1 f__wall) [] := by
  refine def_ok (N := ["k"]) (m := b__wall) F b sc__wall rfl fun cdv A outer s H E hr => ⟨_, (sds_one (sd_while PassesOwn.never (td_truK K ed_bl) (sds_one sd_pass)))⟩
theorem sc_names_of : FnScope ["machine", "name", "moves"] ["machine"] (fnScope s_names_of) := fnScope_by (by decide +kernel)
theorem ok_names_of {f : Addr} {fd : FuncData} (F : Def K mg "names_of" s_names_of f fd) (b : Binds K fd ["machine"] []) (T : Txt K mg)  : Cal P w K mg base 1 "names_of" (SpF K mg 1 f_names_of) [] := by
  refine def_ok (N := ["machine", "name", "moves"]) (m := b_names_of) F b sc_names_of rfl fun cdv A outer s H E hr => ⟨_, (sds_one (sd_ret (ed_ct (r := ZT.rTupleP K) ZT.call_tupleP ca_tuple T.tuple (by decide +kernel) (ad_cons (gd (ed_lc [("name", 1), ("moves", 2)] rfl sc_names_of.nd (wi_seqSK K (ed_var 0)) (fun _ _ _ _ _ => (gt_tupK K rfl (gts_cons (gt_name 1 sc_names_of.nd) (gts_cons (gt_name 2 sc_names_of.nd) gts_nil)))) (fun _ _ _ _ _ => tds_nil) (fun _ _ _ _ _ => (ed_var 1)))) ad_nil))))⟩
theorem sc_index_of : FnScope ["machine", "name"] ["machine", "name"] (fnScope s_index_of) := fnScope_by (by decide +kernel)
theorem ok_index_of {f : Addr} {fd : FuncData} (F : Def K mg "index_of" s_index_of f fd) (b : Binds K fd ["machine", "name"] []) (T : Txt K mg) (c_names_of : Cal P w K mg base 1 "names_of" (SpF K mg 1 f_names_of) []) : Cal P w K mg base 2 "index_of" (SpF K mg 2 f_index_of) [] := by
  refine def_ok (N := ["machine", "name"]) (m := b_index_of) F b sc_index_of rfl fun cdv A outer s H E hr => ⟨_, (sds_one (sd_ret (ed_indexK K (un65 hr) (ed_defK K mg c_names_of hr (by decide) (ad_cons (gd (ed_var 0)) ad_nil)) (ed_var 1))))⟩
theorem sc_moves_at : FnScope ["machine", "standing", "letter", "name"] ["machine", "standing"] (fnScope s_moves_at) := fnScope_by (by decide +kernel)
theorem ok_moves_at {f : Addr} {fd : FuncData} (F : Def K mg "moves_at" s_moves_at f fd) (b : Binds K fd ["machine", "standing"] []) (T : Txt K mg) (c_index_of : Cal P w K mg base 2 "index_of" (SpF K mg 2 f_index_of) []) : Cal P w K mg base 3 "moves_at" (SpF K mg 2 f_moves_at) [] := by
  refine def_ok (N := ["machine", "standing", "letter", "name"]) (m := b_moves_at) F b sc_moves_at rfl fun cdv A outer s H E hr => ⟨_, (sds_one (sd_ret (ed_ct (r := ZT.rTupleP K) ZT.call_tupleP ca_tuple T.tuple (by decide +kernel) (ad_cons (gd (ed_lc [("letter", 2), ("name", 3)] rfl sc_moves_at.nd (wi_seqSK K (ed_ixK K (ed_ixK K (ed_var 0) (ed_var 1)) ed_int)) (fun _ _ _ _ _ => (gt_tupK K rfl (gts_cons (gt_name 2 sc_moves_at.nd) (gts_cons (gt_name 3 sc_moves_at.nd) gts_nil)))) (fun _ _ _ _ _ => tds_nil) (fun _ _ _ _ _ => (ed_tup (ad_cons (gd (ed_var 2)) (ad_cons (gd (ed_defK K mg c_index_of hr (by decide) (ad_cons (gd (ed_var 0)) (ad_cons (gd (ed_var 3)) ad_nil)))) ad_nil)))))) ad_nil))))⟩
theorem sc_led : FnScope ["machine", "standing", "letter"] ["machine", "standing", "letter"] (fnScope s_led) := fnScope_by (by decide +kernel)
theorem ok_led {f : Addr} {fd : FuncData} (F : Def K mg "led" s_led f fd) (b : Binds K fd ["machine", "standing", "letter"] []) (T : Txt K mg) (c_moves_at : Cal P w K mg base 3 "moves_at" (SpF K mg 2 f_moves_at) []) : Cal P w K mg base 4 "led" (SpF K mg 3 f_led) [] := by
  refine def_ok (N := ["machine", "standing", "letter"]) (m := b_led) F b sc_led rfl fun cdv A outer s H E hr => ⟨_, (sds_one (sd_ret (ed_get1 (L2.hu_of hr) (ed_frV (md_dictOf K rfl T.dict (ed_defK K mg c_moves_at hr (by decide) (ad_cons (gd (ed_var 0)) (ad_cons (gd (ed_var 1)) ad_nil))))) (ed_var 2))))⟩
theorem sc_letters_of : FnScope ["machine", "name", "moves", "letter", "there"] ["machine"] (fnScope s_letters_of) := fnScope_by (by decide +kernel)
theorem ok_letters_of {f : Addr} {fd : FuncData} (F : Def K mg "letters_of" s_letters_of f fd) (b : Binds K fd ["machine"] []) (T : Txt K mg)  : Cal P w K mg base 1 "letters_of" (SpF K mg 1 f_letters_of) [] := by
  refine def_ok (N := ["machine", "name", "moves", "letter", "there"]) (m := b_letters_of) F b sc_letters_of rfl fun cdv A outer s H E hr => ⟨_, (sds_one (sd_ret (ed_ct (r := ZT.rTupleP K) ZT.call_tupleP ca_tuple T.tuple (by decide +kernel) (ad_cons (gd (ed_ca (r := rSrtDS) (call_sortedD rfl) ca_sortedDS T.sorted (by decide +kernel) (ad_cons (gd (ed_frV (md_dc2 [("name", 1), ("moves", 2), ("letter", 3), ("there", 4)] [3, 4] rfl sc_letters_of.nd (wi_seqSK K (ed_var 0)) (fun _ _ _ _ _ => (gt_tupK K rfl (gts_cons (gt_name 1 sc_letters_of.nd) (gts_cons (gt_name 2 sc_letters_of.nd) gts_nil)))) (fun _ _ _ _ _ => tds_nil) (fun _ _ _ _ _ => (wi_seqSK K (ed_var 2))) (fun _ _ _ _ _ => (gt_tupK K rfl (gts_cons (gt_name 3 sc_letters_of.nd) (gts_cons (gt_name 4 sc_letters_of.nd) gts_nil)))) (fun _ _ _ _ _ => tds_nil) (fun _ _ _ _ _ => (ed_var 3)) (fun _ _ _ _ _ => ed_bl)))) ad_nil))) ad_nil))))⟩
theorem sc_end_by : FnScope ["machine", "standing", "word", "letter"] ["machine", "standing", "word"] (fnScope s_end_by) := fnScope_by (by decide +kernel)
theorem ok_end_by {f : Addr} {fd : FuncData} (F : Def K mg "end_by" s_end_by f fd) (b : Binds K fd ["machine", "standing", "word"] []) (T : Txt K mg) (c_led : Cal P w K mg base 4 "led" (SpF K mg 3 f_led) []) : Cal P w K mg base 5 "end_by" (SpF K mg 3 f_end_by) [] := by
  refine def_ok (N := ["machine", "standing", "word", "letter"]) (m := b_end_by) F b sc_end_by rfl fun cdv A outer s H E hr => ⟨_, (sds_cons (sd_for PassesOwn.never rfl (wi_seqSK K (ed_var 2)) (gt_name 3 sc_end_by.nd) (sds_one (sd_set 1 sc_end_by.nd (ed_if (td_cmp op_notN opC_isnot (ed_var 1) ed_non) (ed_defK K mg c_led hr (by decide) (ad_cons (gd (ed_var 0)) (ad_cons (gd (ed_var 1)) (ad_cons (gd (ed_var 3)) ad_nil)))) ed_non))))
      (sds_one (sd_ret (ed_var 1))))⟩
theorem sc_is_word : FnScope ["machine", "thing", "one"] ["machine", "thing"] (fnScope s_is_word) := fnScope_by (by decide +kernel)
theorem ok_is_word {f : Addr} {fd : FuncData} (F : Def K mg "is_word" s_is_word f fd) (b : Binds K fd ["machine", "thing"] []) (T : Txt K mg) (c_letters_of : Cal P w K mg base 1 "letters_of" (SpF K mg 1 f_letters_of) []) : Cal P w K mg base 2 "is_word" (SpF K mg 2 f_is_word) [] := by
  refine def_ok (N := ["machine", "thing", "one"]) (m := b_is_word) F b sc_is_word rfl fun cdv A outer s H E hr => ⟨_, (sds_cons (sd_if (WD.td (wd_or (td_not (td_truK K (ed_isiK K kit_tuple T.isinstance T.tuple (ed_var 1) (by decide +kernel)))) (wd_or1 (td_cmp op_gt opC_int (ed_ca (r := rLenK K) call_len ca_len T.len (by decide +kernel) (ad_cons (gd (ed_var 1)) ad_nil)) (ed_gl T.MOST_LONG))))) (sds_one (sd_ret ed_bl)) sds_nil)
      (sds_one (sd_ret (ed_ca (r := rAll K) (cr_all rfl) ca_all T.all (by decide +kernel) (ad_cons (gd (ed_lc [("one", 2)] rfl sc_is_word.nd (wi_seqSK K (ed_var 1)) (fun _ _ _ _ _ => (gt_name 2 sc_is_word.nd)) (fun _ _ _ _ _ => tds_nil) (fun _ _ _ _ _ => (ed_and (ed_isiK K kit_str T.isinstance T.str (ed_var 2) (by decide +kernel)) (ed_one (ed_cmp (r := rInA K) (op_inA (un65 hr)) opC_inA (ed_var 2) (ed_defK K mg c_letters_of hr (by decide) (ad_cons (gd (ed_var 0)) ad_nil)))))))) ad_nil)))))⟩
theorem sc_is_row : FnScope ["machine", "thing"] ["machine", "thing"] (fnScope s_is_row) := fnScope_by (by decide +kernel)
theorem ok_is_row {f : Addr} {fd : FuncData} (F : Def K mg "is_row" s_is_row f fd) (b : Binds K fd ["machine", "thing"] []) (T : Txt K mg) (c_is_word : Cal P w K mg base 2 "is_word" (SpF K mg 2 f_is_word) []) (c_end_by : Cal P w K mg base 5 "end_by" (SpF K mg 3 f_end_by) []) : Cal P w K mg base 6 "is_row" (SpF K mg 2 f_is_row) [] := by
  refine def_ok (N := ["machine", "thing"]) (m := b_is_row) F b sc_is_row rfl fun cdv A outer s H E hr => ⟨_, (sds_one (sd_ret (ed_and (ed_defK K mg c_is_word hr (by decide) (ad_cons (gd (ed_var 0)) (ad_cons (gd (ed_var 1)) ad_nil))) (ed_one (ed_cmp op_notN opC_isnot (ed_defK K mg c_end_by hr (by decide) (ad_cons (gd (ed_var 0)) (ad_cons (gd ed_int) (ad_cons (gd (ed_var 1)) ad_nil)))) ed_non)))))⟩
theorem sc_check_row : FnScope ["machine", "row"] ["machine", "row"] (fnScope s_check_row) := fnScope_by (by decide +kernel)
theorem ok_check_row {f : Addr} {fd : FuncData} (F : Def K mg "check_row" s_check_row f fd) (b : Binds K fd ["machine", "row"] []) (T : Txt K mg) (c_is_row : Cal P w K mg base 6 "is_row" (SpF K mg 2 f_is_row) []) {C_Refused fI_Refused cc_Refused cda_Refused : Addr} (X_Refused : PySem.OwnRefused.Txt P K mg C_Refused fI_Refused cc_Refused cda_Refused) : CalX P w K mg base 7 "check_row" (SpE K mg 2 f_check_row) := by
  refine defX_ok (N := ["machine", "row"]) (m := b_check_row) F b sc_check_row rfl fun cdv A outer s H E hr => ⟨_, (sds_one (sd_if (td_not (td_truK K (ed_defK K mg c_is_row hr (by decide) (ad_cons (gd (ed_var 0)) (ad_cons (gd (ed_var 1)) ad_nil))))) (sds_one (let A0 := (ad_cons (gd ed_str) ad_nil); sd_raise X_Refused.gC A0 (ps_raise_Refused rfl X_Refused hr (takes_of rfl rfl rfl rfl) (AD.pe A0)) fsok_Refused)) sds_nil))⟩
theorem sc_standings_along : FnScope ["machine", "row", "found", "letter"] ["machine", "row"] (fnScope s_standings_along) := fnScope_by (by decide +kernel)
theorem ok_standings_along {f : Addr} {fd : FuncData} (F : Def K mg "standings_along" s_standings_along f fd) (b : Binds K fd ["machine", "row"] []) (T : Txt K mg) (c_check_row : CalX P w K mg base 7 "check_row" (SpE K mg 2 f_check_row)) (c_led : Cal P w K mg base 4 "led" (SpF K mg 3 f_led) []) : CalX P w K mg base 8 "standings_along" (SpE K mg 2 f_standings_along) := by
  refine defX_ok (N := ["machine", "row", "found", "letter"]) (m := b_standings_along) F b sc_standings_along rfl fun cdv A outer s H E hr => ⟨_, (sds_cons (sd_expr (ed_callE K mg c_check_row (takes_of rfl rfl rfl rfl) hr (by decide) (ad_cons (gd (ed_var 0)) (ad_cons (gd (ed_var 1)) ad_nil))))
      (sds_cons (sd_own 2 sc_standings_along.nd (ad_cons (gd ed_int) ad_nil))
      (sds_cons (sd_for (passes_of rfl) rfl (wi_seqSK K (ed_var 1)) (gt_name 3 sc_standings_along.nd) (sds_one (let X0 := (ed_defK K mg c_led hr (by decide) (ad_cons (gd (ed_var 0)) (ad_cons (gd (ed_ixOwnK K 2 (ed_neg ed_int))) (ad_cons (gd (ed_var 3)) ad_nil)))); sd_app 2 X0 (hpe := (pe_bm PySem.F.plainAttrs_list PySem.F.slot_list_append PySem.F.type_list_append mt_append (pe_var (i := 2) rfl (by first | exact Or.inl rfl | exact Or.inr (Or.inl rfl) | exact Or.inr (Or.inr rfl)) (by decide) (by decide)) (pa_cons (ED.pe X0) pa_nil))))))
      (sds_fz 2 (sds_one (sd_ret (ed_ct (r := ZT.rTupleP K) ZT.call_tupleP ca_tuple T.tuple (by decide +kernel) (ad_cons (gd (ed_var 2)) ad_nil))))))))⟩
theorem sc_is_short : FnScope ["machine", "thing", "some", "standing"] ["machine", "thing"] (fnScope s_is_short) := fnScope_by (by decide +kernel)
theorem ok_is_short {f : Addr} {fd : FuncData} (F : Def K mg "is_short" s_is_short f fd) (b : Binds K fd ["machine", "thing"] []) (T : Txt K mg) (c_is_row : Cal P w K mg base 6 "is_row" (SpF K mg 2 f_is_row) []) (c_standings_along : CalX P w K mg base 8 "standings_along" (SpE K mg 2 f_standings_along)) : CalX P w K mg base 9 "is_short" (SpE K mg 2 f_is_short) := by
  refine defX_ok (N := ["machine", "thing", "some", "standing"]) (m := b_is_short) F b sc_is_short rfl fun cdv A outer s H E hr => ⟨_, (sds_cons (sd_if (td_not (td_truK K (ed_defK K mg c_is_row hr (by decide) (ad_cons (gd (ed_var 0)) (ad_cons (gd (ed_var 1)) ad_nil))))) (sds_one (sd_ret ed_bl)) sds_nil)
      (sds_cons (sd_set 2 sc_is_short.nd (ed_callE K mg c_standings_along (takes_of rfl rfl rfl rfl) hr (by decide) (ad_cons (gd (ed_var 0)) (ad_cons (gd (ed_var 1)) ad_nil))))
      (sds_one (sd_ret (ed_cmp (r := rEqD K) (op_eqD hr.units) opC_eq (ed_dcLen 3 rfl sc_is_short.nd T.len (wi_seqSK K (ed_var 2)) (fun _ _ _ _ _ => pe_var rfl (by first | exact Or.inl rfl | exact Or.inr (Or.inl rfl) | exact Or.inr (Or.inr rfl)) (by decide) (by decide)) (fun _ _ _ _ _ => pg_name sc_is_short.nd rfl (Or.inl rfl))) (ed_ca (r := rLenK K) call_len ca_len T.len (by decide +kernel) (ad_cons (gd (ed_var 2)) ad_nil)))))))⟩
theorem sc_short_rows : FnScope ["machine", "found", "line", "row", "some", "letter", "there"] ["machine"] (fnScope s_short_rows) := fnScope_by (by decide +kernel)
theorem ok_short_rows {f : Addr} {fd : FuncData} (F : Def K mg "short_rows" s_short_rows f fd) (b : Binds K fd ["machine"] []) (T : Txt K mg) (c_moves_at : Cal P w K mg base 3 "moves_at" (SpF K mg 2 f_moves_at) []) : Cal P w K mg base 4 "short_rows" (SpF K mg 1 f_short_rows) [] := by
  refine def_ok (N := ["machine", "found", "line", "row", "some", "letter", "there"]) (m := b_short_rows) F b sc_short_rows rfl fun cdv A outer s H E hr => ⟨_, (sds_cons (sd_parM 1 2 rfl sc_short_rows.nd (md_lst (ad_cons (gd (ed_tup ad_nil)) ad_nil)) (md_lst (ad_cons (gd (ed_tup (ad_cons (gd (ed_tup ad_nil)) (ad_cons (gd (ed_tup (ad_cons (gd ed_int) ad_nil))) ad_nil)))) ad_nil)))
      (sds_cons (sd_while PassesOwn.never (td_lend 2 (td_cmp (r := rNeD K) (op_neD hr.units) opC_ne (ed_var 2) (ed_lst ad_nil))) (sds_cons (let X0 := ed_int; sd_popSet 2 X0 (gt_tupK K rfl (gts_cons (gt_name 3 sc_short_rows.nd) (gts_cons (gt_name 4 sc_short_rows.nd) gts_nil))) rfl (pe_bm PySem.F.plainAttrs_list PySem.F.slot_list_pop PySem.F.type_list_pop mt_popAt (pe_var (i := 2) rfl (by first | exact Or.inl rfl | exact Or.inr (Or.inl rfl) | exact Or.inr (Or.inr rfl)) (by decide) (by decide)) (pa_cons (ED.pe X0) pa_nil)))
      (sds_one (sd_for PassesOwn.never rfl (wi_seqSK K (ed_defK K mg c_moves_at hr (by decide) (ad_cons (gd (ed_var 0)) (ad_cons (gd (ed_ixK K (ed_var 4) (ed_neg ed_int))) ad_nil)))) (gt_tupK K rfl (gts_cons (gt_name 5 sc_short_rows.nd) (gts_cons (gt_name 6 sc_short_rows.nd) gts_nil))) (sds_one (sd_if (td_cmp (r := rNinA K) (op_ninA (un65 hr)) opC_ninA (ed_var 6) (ed_var 4)) (sds_cons (let X0 := (ed_tup (ad_starK K (ed_var 3) (ad_cons (gd (ed_var 5)) ad_nil))); sd_app 1 X0 (hpe := (pe_bm PySem.F.plainAttrs_list PySem.F.slot_list_append PySem.F.type_list_append mt_append (pe_var (i := 1) rfl (by first | exact Or.inl rfl | exact Or.inr (Or.inl rfl) | exact Or.inr (Or.inr rfl)) (by decide) (by decide)) (pa_cons (ED.pe X0) pa_nil))))
      (sds_one (let X0 := (ed_tup (ad_cons (gd (ed_tup (ad_starK K (ed_var 3) (ad_cons (gd (ed_var 5)) ad_nil)))) (ad_cons (gd (ed_tup (ad_starK K (ed_var 4) (ad_cons (gd (ed_var 6)) ad_nil)))) ad_nil))); sd_app 2 X0 (hpe := (pe_bm PySem.F.plainAttrs_list PySem.F.slot_list_append PySem.F.type_list_append mt_append (pe_var (i := 2) rfl (by first | exact Or.inl rfl | exact Or.inr (Or.inl rfl) | exact Or.inr (Or.inr rfl)) (by decide) (by decide)) (pa_cons (ED.pe X0) pa_nil)))))) sds_nil))))))
      (sds_fz 1 (sds_one (sd_ret (ed_ct (r := ZT.rTupleP K) ZT.call_tupleP ca_tuple T.tuple (by decide +kernel) (ad_cons (gd (ed_var 1)) ad_nil)))))))⟩
theorem sc_walked_out : FnScope ["machine", "row", "kept", "some", "gone", "letter", "there", "at"] ["machine", "row"] (fnScope s_walked_out) := fnScope_by (by decide +kernel)
theorem ok_walked_out {f : Addr} {fd : FuncData} (F : Def K mg "walked_out" s_walked_out f fd) (b : Binds K fd ["machine", "row"] []) (T : Txt K mg) (c_led : Cal P w K mg base 4 "led" (SpF K mg 3 f_led) []) : Cal P w K mg base 5 "walked_out" (SpF K mg 2 f_walked_out) [] := by
  refine def_ok (N := ["machine", "row", "kept", "some", "gone", "letter", "there", "at"]) (m := b_walked_out) F b sc_walked_out rfl fun cdv A outer s H E hr => ⟨_, (sds_cons (sd_par3 2 3 4 rfl sc_walked_out.nd (md_d (ed_tup ad_nil)) (md_d (ed_tup (ad_cons (gd ed_int) ad_nil))) (md_lst ad_nil))
      (sds_cons (sd_for PassesOwn.never rfl (wi_seqSK K (ed_var 1)) (gt_name 5 sc_walked_out.nd) (sds_cons (sd_set 6 sc_walked_out.nd (ed_defK K mg c_led hr (by decide) (ad_cons (gd (ed_var 0)) (ad_cons (gd (ed_ixK K (ed_var 3) (ed_neg ed_int))) (ad_cons (gd (ed_var 5)) ad_nil)))))
      (sds_one (sd_if (td_cmp (r := rInA K) (op_inA (un65 hr)) opC_inA (ed_var 6) (ed_var 3)) (sds_cons (sd_set 7 sc_walked_out.nd (ed_indexK K (un65 hr) (ed_var 3) (ed_var 6)))
      (sds_cons (let X0 := (ed_tup (ad_cons (gd (ed_sliceK K (ed_var 2) od_none (od_some (ed_var 7)))) (ad_cons (gd (ed_tup (ad_starK K (ed_sliceK K (ed_var 2) (od_some (ed_var 7)) od_none) (ad_cons (gd (ed_var 5)) ad_nil)))) ad_nil))); sd_app 4 X0 (hpe := (pe_bm PySem.F.plainAttrs_list PySem.F.slot_list_append PySem.F.type_list_append mt_append (pe_var (i := 4) rfl (by first | exact Or.inl rfl | exact Or.inr (Or.inl rfl) | exact Or.inr (Or.inr rfl)) (by decide) (by decide)) (pa_cons (ED.pe X0) pa_nil))))
      (sds_one (sd_par 2 3 rfl sc_walked_out.nd (ad_cons (gd (ed_sliceK K (ed_var 2) od_none (od_some (ed_var 7)))) (ad_cons (gd (ed_sliceK K (ed_var 3) od_none (od_some (ed_addK K (ed_var 7) ed_int)))) ad_nil)))))) (sds_one (sd_par 2 3 rfl sc_walked_out.nd (ad_cons (gd (ed_tup (ad_starK K (ed_var 2) (ad_cons (gd (ed_var 5)) ad_nil)))) (ad_cons (gd (ed_tup (ad_starK K (ed_var 3) (ad_cons (gd (ed_var 6)) ad_nil)))) ad_nil))))))))
      (sds_fz 4 (sds_one (sd_ret (ed_tup (ad_cons (gd (ed_var 2)) (ad_cons (gd (ed_ct (r := ZT.rTupleP K) ZT.call_tupleP ca_tuple T.tuple (by decide +kernel) (ad_cons (gd (ed_var 4)) ad_nil))) ad_nil))))))))⟩
theorem sc_left_out : FnScope ["machine", "row"] ["machine", "row"] (fnScope s_left_out) := fnScope_by (by decide +kernel)
theorem ok_left_out {f : Addr} {fd : FuncData} (F : Def K mg "left_out" s_left_out f fd) (b : Binds K fd ["machine", "row"] []) (T : Txt K mg) (c_check_row : CalX P w K mg base 7 "check_row" (SpE K mg 2 f_check_row)) (c_walked_out : Cal P w K mg base 5 "walked_out" (SpF K mg 2 f_walked_out) []) : CalX P w K mg base 8 "left_out" (SpE K mg 2 f_left_out) := by
  refine defX_ok (N := ["machine", "row"]) (m := b_left_out) F b sc_left_out rfl fun cdv A outer s H E hr => ⟨_, (sds_cons (sd_expr (ed_callE K mg c_check_row (takes_of rfl rfl rfl rfl) hr (by decide) (ad_cons (gd (ed_var 0)) (ad_cons (gd (ed_var 1)) ad_nil))))
      (sds_one (sd_ret (ed_ixK K (ed_defK K mg c_walked_out hr (by decide) (ad_cons (gd (ed_var 0)) (ad_cons (gd (ed_var 1)) ad_nil))) ed_int))))⟩
theorem sc_turns_in : FnScope ["machine", "row"] ["machine", "row"] (fnScope s_turns_in) := fnScope_by (by decide +kernel)
theorem ok_turns_in {f : Addr} {fd : FuncData} (F : Def K mg "turns_in" s_turns_in f fd) (b : Binds K fd ["machine", "row"] []) (T : Txt K mg) (c_check_row : CalX P w K mg base 7 "check_row" (SpE K mg 2 f_check_row)) (c_walked_out : Cal P w K mg base 5 "walked_out" (SpF K mg 2 f_walked_out) []) : CalX P w K mg base 8 "turns_in" (SpE K mg 2 f_turns_in) := by
  refine defX_ok (N := ["machine", "row"]) (m := b_turns_in) F b sc_turns_in rfl fun cdv A outer s H E hr => ⟨_, (sds_cons (sd_expr (ed_callE K mg c_check_row (takes_of rfl rfl rfl rfl) hr (by decide) (ad_cons (gd (ed_var 0)) (ad_cons (gd (ed_var 1)) ad_nil))))
      (sds_one (sd_ret (ed_ixK K (ed_defK K mg c_walked_out hr (by decide) (ad_cons (gd (ed_var 0)) (ad_cons (gd (ed_var 1)) ad_nil))) ed_int))))⟩
theorem sc_next_left : FnScope ["machine", "short", "letter"] ["machine", "short", "letter"] (fnScope s_next_left) := fnScope_by (by decide +kernel)
theorem ok_next_left {f : Addr} {fd : FuncData} (F : Def K mg "next_left" s_next_left f fd) (b : Binds K fd ["machine", "short", "letter"] []) (T : Txt K mg) (c_is_row : Cal P w K mg base 6 "is_row" (SpF K mg 2 f_is_row) []) (c_left_out : CalX P w K mg base 8 "left_out" (SpE K mg 2 f_left_out)) : CalX P w K mg base 9 "next_left" (SpE K mg 3 f_next_left) := by
  refine defX_ok (N := ["machine", "short", "letter"]) (m := b_next_left) F b sc_next_left rfl fun cdv A outer s H E hr => ⟨_, (sds_one (sd_ret (ed_if (td_truK K (ed_defK K mg c_is_row hr (by decide) (ad_cons (gd (ed_var 0)) (ad_cons (gd (ed_tup (ad_starK K (ed_var 1) (ad_cons (gd (ed_var 2)) ad_nil)))) ad_nil)))) (ed_callE K mg c_left_out (takes_of rfl rfl rfl rfl) hr (by decide) (ad_cons (gd (ed_var 0)) (ad_cons (gd (ed_tup (ad_starK K (ed_var 1) (ad_cons (gd (ed_var 2)) ad_nil)))) ad_nil))) ed_non)))⟩
theorem sc_first_turns : FnScope ["machine", "found", "row", "some", "letter", "there", "at"] ["machine"] (fnScope s_first_turns) := fnScope_by (by decide +kernel)
theorem ok_first_turns {f : Addr} {fd : FuncData} (F : Def K mg "first_turns" s_first_turns f fd) (b : Binds K fd ["machine"] []) (T : Txt K mg) (c_short_rows : Cal P w K mg base 4 "short_rows" (SpF K mg 1 f_short_rows) []) (c_standings_along : CalX P w K mg base 8 "standings_along" (SpE K mg 2 f_standings_along)) (c_moves_at : Cal P w K mg base 3 "moves_at" (SpF K mg 2 f_moves_at) []) : CalX P w K mg base 9 "first_turns" (SpE K mg 1 f_first_turns) := by
  refine defX_ok (N := ["machine", "found", "row", "some", "letter", "there", "at"]) (m := b_first_turns) F b sc_first_turns rfl fun cdv A outer s H E hr => ⟨_, (sds_cons (sd_own 1 sc_first_turns.nd ad_nil)
      (sds_cons (sd_for (passes_of rfl) rfl (wi_seqSK K (ed_defK K mg c_short_rows hr (by decide) (ad_cons (gd (ed_var 0)) ad_nil))) (gt_name 2 sc_first_turns.nd) (sds_cons (sd_set 3 sc_first_turns.nd (ed_callE K mg c_standings_along (takes_of rfl rfl rfl rfl) hr (by decide) (ad_cons (gd (ed_var 0)) (ad_cons (gd (ed_var 2)) ad_nil))))
      (sds_one (sd_for (passes_of rfl) rfl (wi_seqSK K (ed_defK K mg c_moves_at hr (by decide) (ad_cons (gd (ed_var 0)) (ad_cons (gd (ed_ixK K (ed_var 3) (ed_neg ed_int))) ad_nil)))) (gt_tupK K rfl (gts_cons (gt_name 4 sc_first_turns.nd) (gts_cons (gt_name 5 sc_first_turns.nd) gts_nil))) (sds_one (sd_if (td_cmp (r := rInA K) (op_inA (un65 hr)) opC_inA (ed_var 5) (ed_var 3)) (sds_cons (sd_set 6 sc_first_turns.nd (ed_indexK K (un65 hr) (ed_var 3) (ed_var 5)))
      (sds_one (let X0 := (ed_tup (ad_cons (gd (ed_sliceK K (ed_var 2) od_none (od_some (ed_var 6)))) (ad_cons (gd (ed_tup (ad_starK K (ed_sliceK K (ed_var 2) (od_some (ed_var 6)) od_none) (ad_cons (gd (ed_var 4)) ad_nil)))) ad_nil))); sd_app 1 X0 (hpe := (pe_bm PySem.F.plainAttrs_list PySem.F.slot_list_append PySem.F.type_list_append mt_append (pe_var (i := 1) rfl (by first | exact Or.inl rfl | exact Or.inr (Or.inl rfl) | exact Or.inr (Or.inr rfl)) (by decide) (by decide)) (pa_cons (ED.pe X0) pa_nil)))))) sds_nil))))))
      (sds_fz 1 (sds_one (sd_ret (ed_ct (r := ZT.rTupleP K) ZT.call_tupleP ca_tuple T.tuple (by decide +kernel) (ad_cons (gd (ed_var 1)) ad_nil)))))))⟩
theorem sc__law_take : FnScope ["bag", "many", "cell", "stirred", "value", "begin", "second"] ["bag", "many"] (fnScope s__law_take) := fnScope_by (by decide +kernel)
theorem ok__law_take {f : Addr} {fd : FuncData} (F : Def K mg "_law_take" s__law_take f fd) (b : Binds K fd ["bag", "many"] []) (T : Txt K mg)  : Cal P w K mg base 1 "_law_take" (SpF K mg 2 f__law_take) [] := by
  refine def_ok (N := ["bag", "many", "cell", "stirred", "value", "begin", "second"]) (m := b__law_take) F b sc__law_take rfl fun cdv A outer s H E hr => ⟨_, (sds_cons (sd_if (td_cmp (r := rEqD K) (op_eqD hr.units) opC_eq (ed_bagK K 0 0) ed_int) (sds_cons (sd_set 2 sc__law_take.nd (ed_ixK K (ed_addK K (ed_sliceK K (ed_bagK K 0 3) (od_some (ed_bagK K 0 2)) od_none) (ed_lst (ad_cons (gd ed_int) ad_nil))) ed_int))
      (sds_cons (sd_bagAug 0 2 1)
      (sds_cons (sd_if (td_cmp op_ge opC_int (ed_var 2) (ed_pow ed_int ed_int)) (sds_one (sd_bagSet 0 0 (ed_var 2))) sds_nil)
      (sds_cons (sd_set 3 sc__law_take.nd (ed_addK K (ed_addK K (ed_mulK K (ed_bagK K 0 1) ed_int) (ed_mod (ed_ct call_int1 ca_int T.int (by decide +kernel) (ad_cons (gd (ed_var 2)) ad_nil)) ed_int)) (ed_mulK K ed_int (ed_bagK K 0 2))))
      (sds_one (sd_bagSet 0 1 (ed_mod (ed_ct call_int1 ca_int T.int (by decide +kernel) (ad_cons (gd (ed_var 3)) ad_nil)) ed_int))))))) sds_nil)
      (sds_cons (sd_if (td_cmp op_gt opC_int (ed_bagK K 0 0) ed_int) (sds_cons (sd_set 4 sc__law_take.nd (ed_mod (ed_ct call_int1 ca_int T.int (by decide +kernel) (ad_cons (gd (ed_bagK K 0 0)) ad_nil)) (ed_var 1)))
      (sds_cons (sd_bagSet 0 0 (ed_fdiv (ed_ct call_int1 ca_int T.int (by decide +kernel) (ad_cons (gd (ed_bagK K 0 0)) ad_nil)) (ed_var 1)))
      (sds_one (sd_ret (ed_var 4))))) sds_nil)
      (sds_cons (sd_set 5 sc__law_take.nd (ed_mod (ed_ct call_int1 ca_int T.int (by decide +kernel) (ad_cons (gd (ed_mulK K (ed_addK K (ed_bagK K 0 1) ed_int) ed_int)) ad_nil)) ed_int))
      (sds_cons (sd_set 6 sc__law_take.nd (ed_mod (ed_ct call_int1 ca_int T.int (by decide +kernel) (ad_cons (gd (ed_mulK K (ed_mod (ed_ct call_int1 ca_int T.int (by decide +kernel) (ad_cons (gd (ed_mulK K (ed_var 5) (ed_var 5))) ad_nil)) ed_int) ed_int)) ad_nil)) ed_int))
      (sds_one (sd_ret (ed_mod (ed_ct call_int1 ca_int T.int (by decide +kernel) (ad_cons (gd (ed_fdiv (ed_var 6) ed_int)) ad_nil)) (ed_var 1))))))))⟩
theorem sc__law_some : FnScope ["bag", "things"] ["bag", "things"] (fnScope s__law_some) := fnScope_by (by decide +kernel)
theorem ok__law_some {f : Addr} {fd : FuncData} (F : Def K mg "_law_some" s__law_some f fd) (b : Binds K fd ["bag", "things"] []) (T : Txt K mg) (c__law_take : Cal P w K mg base 1 "_law_take" (SpF K mg 2 f__law_take) []) : Cal P w K mg base 2 "_law_some" (SpF K mg 2 f__law_some) [] := by
  refine def_ok (N := ["bag", "things"]) (m := b__law_some) F b sc__law_some rfl fun cdv A outer s H E hr => ⟨_, (sds_one (sd_ret (ed_ixK K (ed_var 1) (ed_defK K mg c__law_take hr (by decide) (ad_cons (gd_bag 0) (ad_cons (gd (ed_ca (r := rLenK K) call_len ca_len T.len (by decide +kernel) (ad_cons (gd (ed_var 1)) ad_nil))) ad_nil))))))⟩
theorem sc__law_mixed : FnScope ["bag", "things", "left", "found"] ["bag", "things"] (fnScope s__law_mixed) := fnScope_by (by decide +kernel)
theorem ok__law_mixed {f : Addr} {fd : FuncData} (F : Def K mg "_law_mixed" s__law_mixed f fd) (b : Binds K fd ["bag", "things"] []) (T : Txt K mg) (c__law_take : Cal P w K mg base 1 "_law_take" (SpF K mg 2 f__law_take) []) : Cal P w K mg base 2 "_law_mixed" (SpF K mg 2 f__law_mixed) [] := by
  refine def_ok (N := ["bag", "things", "left", "found"]) (m := b__law_mixed) F b sc__law_mixed rfl fun cdv A outer s H E hr => ⟨_, (sds_cons (sd_parM 2 3 rfl sc__law_mixed.nd (md_list K T.list (ad_cons (gd (ed_var 1)) ad_nil)) (md_lst ad_nil))
      (sds_cons (sd_while PassesOwn.never (td_lend 2 (td_cmp (r := rNeD K) (op_neD hr.units) opC_ne (ed_var 2) (ed_lst ad_nil))) (sds_one (let X0 := (ed_defK K mg c__law_take hr (by decide) (ad_cons (gd_bag 0) (ad_cons (gd (ed_lenOwn 2 T.len)) ad_nil))); sd_appPop 3 2 X0 (by decide) rfl rfl (pe_bm PySem.F.plainAttrs_list PySem.F.slot_list_append PySem.F.type_list_append mt_append (pe_var (i := 3) rfl (by first | exact Or.inl rfl | exact Or.inr (Or.inl rfl) | exact Or.inr (Or.inr rfl)) (by decide) (by decide)) (pa_cons (pe_bm PySem.F.plainAttrs_list PySem.F.slot_list_pop PySem.F.type_list_pop mt_popAt (pe_var (i := 2) rfl (by first | exact Or.inl rfl | exact Or.inr (Or.inl rfl) | exact Or.inr (Or.inr rfl)) (by decide) (by decide)) (pa_cons (ED.pe X0) pa_nil)) pa_nil)))))
      (sds_fz 3 (sds_one (sd_ret (ed_var 3))))))⟩
theorem sc__law_alike : FnScope ["found", "due", "pairs", "at", "one", "other"] ["found", "due"] (fnScope s__law_alike) := fnScope_by (by decide +kernel)
theorem ok__law_alike {f : Addr} {fd : FuncData} (F : Def K mg "_law_alike" s__law_alike f fd) (b : Binds K fd ["found", "due"] []) (T : Txt K mg)  : Cal P w K mg base 1 "_law_alike" (SpF K mg 2 f__law_alike) [] := by
  refine def_ok (N := ["found", "due", "pairs", "at", "one", "other"]) (m := b__law_alike) F b sc__law_alike rfl fun cdv A outer s H E hr => ⟨_, (sds_cons (sd_parOwn 2 3 rfl sc__law_alike.nd (ad_cons (gd (ed_tup (ad_cons (gd (ed_var 0)) (ad_cons (gd (ed_var 1)) ad_nil)))) ad_nil) ed_int)
      (sds_cons (sd_while PassesOwn.never (td_cmp op_lt opC_int (ed_var 3) (ed_lenOwn 2 T.len)) (sds_cons (sd_asg (ed_ixOwnK K 2 (ed_var 3)) (gt_tupK K rfl (gts_cons (gt_name 4 sc__law_alike.nd) (gts_cons (gt_name 5 sc__law_alike.nd) gts_nil))))
      (sds_cons (sd_aug 3 sc__law_alike.nd ip_add ed_int)
      (sds_cons (sd_if (WD.td (wd_or (td_cmp (r := rNeD K) (op_neD hr.units) opC_ne (ed_isiK K kit_bool T.isinstance T.bool (ed_var 4) (by decide +kernel)) (ed_isiK K kit_bool T.isinstance T.bool (ed_var 5) (by decide +kernel))) (wd_or1 (td_cmp (r := rNeD K) (op_neD hr.units) opC_ne (ed_isiK K kit_str T.isinstance T.str (ed_var 4) (by decide +kernel)) (ed_isiK K kit_str T.isinstance T.str (ed_var 5) (by decide +kernel)))))) (sds_one (sd_ret ed_bl)) sds_nil)
      (sds_cons (sd_if (td_cmp (r := rNeD K) (op_neD hr.units) opC_ne (ed_isi2K K kit_tuple kit_list T.isinstance T.tuple T.list (ed_var 4) (by decide +kernel) (by decide +kernel)) (ed_isi2K K kit_tuple kit_list T.isinstance T.tuple T.list (ed_var 5) (by decide +kernel) (by decide +kernel))) (sds_one (sd_ret ed_bl)) sds_nil)
      (sds_one (sd_if (td_truK K (ed_isi2K K kit_tuple kit_list T.isinstance T.tuple T.list (ed_var 4) (by decide +kernel) (by decide +kernel))) (sds_cons (sd_if (WD.td (wd_or (td_cmp (r := rNeD K) (op_neD hr.units) opC_ne (ed_isiK K kit_tuple T.isinstance T.tuple (ed_var 4) (by decide +kernel)) (ed_isiK K kit_tuple T.isinstance T.tuple (ed_var 5) (by decide +kernel))) (wd_or1 (td_cmp (r := rNeD K) (op_neD hr.units) opC_ne (ed_ca (r := rLenK K) call_len ca_len T.len (by decide +kernel) (ad_cons (gd (ed_var 4)) ad_nil)) (ed_ca (r := rLenK K) call_len ca_len T.len (by decide +kernel) (ad_cons (gd (ed_var 5)) ad_nil)))))) (sds_one (sd_ret ed_bl)) sds_nil)
      (sds_one (let X0 := (ed_listZipK K rfl T.list T.zip (ad_cons (gd (ed_var 4)) (ad_cons (gd (ed_var 5)) ad_nil))); sd_ext 2 X0 (hpe := (pe_bm PySem.F.plainAttrs_list PySem.F.slot_list_extend PySem.F.type_list_extend mt_extend (pe_var (i := 2) rfl (by first | exact Or.inl rfl | exact Or.inr (Or.inl rfl) | exact Or.inr (Or.inr rfl)) (by decide) (by decide)) (pa_cons (ED.pe X0) pa_nil)))))) (sds_one (sd_if (td_cmp (r := rNeD K) (op_neD hr.units) opC_ne (ed_var 4) (ed_var 5)) (sds_one (sd_ret ed_bl)) sds_nil)))))))))
      (sds_one (sd_ret ed_bl))))⟩
theorem sc__law_machine : FnScope ["bag", "many", "names", "found", "name", "letters", "letter"] ["bag"] (fnScope s__law_machine) := fnScope_by (by decide +kernel)
theorem ok__law_machine {f : Addr} {fd : FuncData} (F : Def K mg "_law_machine" s__law_machine f fd) (b : Binds K fd ["bag"] []) (T : Txt K mg) (c__law_take : Cal P w K mg base 1 "_law_take" (SpF K mg 2 f__law_take) []) (c__law_mixed : Cal P w K mg base 2 "_law_mixed" (SpF K mg 2 f__law_mixed) []) (c__law_some : Cal P w K mg base 2 "_law_some" (SpF K mg 2 f__law_some) []) : Cal P w K mg base 3 "_law_machine" (SpF K mg 1 f__law_machine) [] := by
  refine def_ok (N := ["bag", "many", "names", "found", "name", "letters", "letter"]) (m := b__law_machine) F b sc__law_machine rfl fun cdv A outer s H E hr => ⟨_, (sds_cons (sd_set 1 sc__law_machine.nd (ed_addK K ed_int (ed_defK K mg c__law_take hr (by decide) (ad_cons (gd_bag 0) (ad_cons (gd ed_int) ad_nil)))))
      (sds_cons (sd_par2T K 2 3 rfl sc__law_machine.nd (md_d (ed_sliceK K (ed_lst (ad_cons (gd ed_str) (ad_cons (gd ed_str) (ad_cons (gd ed_str) ad_nil)))) od_none (od_some (ed_var 1)))) (md_lst ad_nil))
      (sds_cons (sd_for PassesOwn.never rfl (wi_seqSK K (ed_var 2)) (gt_name 4 sc__law_machine.nd) (sds_cons (sd_set 5 sc__law_machine.nd (ed_sliceK K (ed_defK K mg c__law_mixed hr (by decide) (ad_cons (gd_bag 0) (ad_cons (gd (ed_lst (ad_cons (gd ed_str) (ad_cons (gd ed_str) (ad_cons (gd ed_str) ad_nil))))) ad_nil))) od_none (od_some (ed_defK K mg c__law_some hr (by decide) (ad_cons (gd_bag 0) (ad_cons (gd (ed_lst (ad_cons (gd ed_int) (ad_cons (gd ed_int) (ad_cons (gd ed_int) (ad_cons (gd ed_int) (ad_cons (gd ed_int) (ad_cons (gd ed_int) ad_nil)))))))) ad_nil))))))
      (sds_one (let X0 := (ed_tup (ad_cons (gd (ed_var 4)) (ad_cons (gd (ed_ct (r := ZT.rTupleP K) ZT.call_tupleP ca_tuple T.tuple (by decide +kernel) (ad_cons (gd (ed_lc [("letter", 6)] rfl sc__law_machine.nd (wi_seqSK K (ed_ca (r := rSortedA K) cr_sortedA ca_sortedA T.sorted (by decide +kernel) (ad_cons (gd (ed_var 5)) ad_nil))) (fun _ _ _ _ _ => (gt_name 6 sc__law_machine.nd)) (fun _ _ _ _ _ => tds_nil) (fun _ _ _ _ _ => (ed_tup (ad_cons (gd (ed_var 6)) (ad_cons (gd (ed_defK K mg c__law_some hr (by decide) (ad_cons (gd_bag 0) (ad_cons (gd (ed_var 2)) ad_nil)))) ad_nil)))))) ad_nil))) ad_nil))); sd_app 3 X0 (hpe := (pe_bm PySem.F.plainAttrs_list PySem.F.slot_list_append PySem.F.type_list_append mt_append (pe_var (i := 3) rfl (by first | exact Or.inl rfl | exact Or.inr (Or.inl rfl) | exact Or.inr (Or.inr rfl)) (by decide) (by decide)) (pa_cons (ED.pe X0) pa_nil)))))))
      (sds_fz 3 (sds_one (sd_ret (ed_ct (r := ZT.rTupleP K) ZT.call_tupleP ca_tuple T.tuple (by decide +kernel) (ad_cons (gd (ed_var 3)) ad_nil))))))))⟩
theorem sc__law_moves : FnScope ["machine", "standing", "names", "name", "moves", "letter"] ["machine", "standing"] (fnScope s__law_moves) := fnScope_by (by decide +kernel)
theorem ok__law_moves {f : Addr} {fd : FuncData} (F : Def K mg "_law_moves" s__law_moves f fd) (b : Binds K fd ["machine", "standing"] []) (T : Txt K mg)  : Cal P w K mg base 1 "_law_moves" (SpF K mg 2 f__law_moves) [] := by
  refine def_ok (N := ["machine", "standing", "names", "name", "moves", "letter"]) (m := b__law_moves) F b sc__law_moves rfl fun cdv A outer s H E hr => ⟨_, (sds_cons (sd_set 2 sc__law_moves.nd (ed_lc [("name", 3), ("moves", 4)] rfl sc__law_moves.nd (wi_seqSK K (ed_var 0)) (fun _ _ _ _ _ => (gt_tupK K rfl (gts_cons (gt_name 3 sc__law_moves.nd) (gts_cons (gt_name 4 sc__law_moves.nd) gts_nil)))) (fun _ _ _ _ _ => tds_nil) (fun _ _ _ _ _ => (ed_var 3))))
      (sds_one (sd_ret (ed_lc [("letter", 5), ("name", 3)] rfl sc__law_moves.nd (wi_seqSK K (ed_ixK K (ed_ixK K (ed_var 0) (ed_var 1)) ed_int)) (fun _ _ _ _ _ => (gt_tupK K rfl (gts_cons (gt_name 5 sc__law_moves.nd) (gts_cons (gt_name 3 sc__law_moves.nd) gts_nil)))) (fun _ _ _ _ _ => tds_nil) (fun _ _ _ _ _ => (ed_tup (ad_cons (gd (ed_var 5)) (ad_cons (gd (ed_indexK K (un65 hr) (ed_var 2) (ed_var 3))) ad_nil))))))))⟩
theorem sc__law_letters : FnScope ["machine", "found", "name", "moves", "letter", "there"] ["machine"] (fnScope s__law_letters) := fnScope_by (by decide +kernel)
theorem ok__law_letters {f : Addr} {fd : FuncData} (F : Def K mg "_law_letters" s__law_letters f fd) (b : Binds K fd ["machine"] []) (T : Txt K mg)  : Cal P w K mg base 1 "_law_letters" (SpF K mg 1 f__law_letters) [] := by
  refine def_ok (N := ["machine", "found", "name", "moves", "letter", "there"]) (m := b__law_letters) F b sc__law_letters rfl fun cdv A outer s H E hr => ⟨_, (sds_cons (sd_set 1 sc__law_letters.nd (ed_lst ad_nil))
      (sds_cons (sd_for PassesOwn.never rfl (wi_seqSK K (ed_var 0)) (gt_tupK K rfl (gts_cons (gt_name 2 sc__law_letters.nd) (gts_cons (gt_name 3 sc__law_letters.nd) gts_nil))) (sds_one (sd_set 1 sc__law_letters.nd (ed_addK K (ed_var 1) (ed_lc [("letter", 4), ("there", 5)] rfl sc__law_letters.nd (wi_seqSK K (ed_var 3)) (fun _ _ _ _ _ => (gt_tupK K rfl (gts_cons (gt_name 4 sc__law_letters.nd) (gts_cons (gt_name 5 sc__law_letters.nd) gts_nil)))) (fun _ _ _ _ _ => tds_nil) (fun _ _ _ _ _ => (ed_var 4)))))))
      (sds_one (sd_ret (ed_srtSetA K w rfl T.sorted T.set (ed_var 1))))))⟩
theorem sc__law_end : FnScope ["machine", "standing", "word", "letter", "some", "its", "there"] ["machine", "standing", "word"] (fnScope s__law_end) := fnScope_by (by decide +kernel)
theorem ok__law_end {f : Addr} {fd : FuncData} (F : Def K mg "_law_end" s__law_end f fd) (b : Binds K fd ["machine", "standing", "word"] []) (T : Txt K mg) (c__law_moves : Cal P w K mg base 1 "_law_moves" (SpF K mg 2 f__law_moves) []) : Cal P w K mg base 2 "_law_end" (SpF K mg 3 f__law_end) [] := by
  refine def_ok (N := ["machine", "standing", "word", "letter", "some", "its", "there"]) (m := b__law_end) F b sc__law_end rfl fun cdv A outer s H E hr => ⟨_, (sds_cons (sd_for PassesOwn.never rfl (wi_seqSK K (ed_var 2)) (gt_name 3 sc__law_end.nd) (sds_cons (sd_setLc 4 [("its", 5), ("there", 6)] rfl sc__law_end.nd (wi_seqSK K (ed_defK K mg c__law_moves hr (by decide) (ad_cons (gd (ed_var 0)) (ad_cons (gd (ed_var 1)) ad_nil)))) (fun _ _ _ _ _ => (gt_tupK K rfl (gts_cons (gt_name 5 sc__law_end.nd) (gts_cons (gt_name 6 sc__law_end.nd) gts_nil)))) (fun _ _ _ _ _ => (tds_one (td_cmp (r := rEqD K) (op_eqD hr.units) opC_eq (ed_var 5) (ed_var 3)))) (fun _ _ _ _ _ => (ed_var 6)))
      (sds_cons (sd_if (td_cmp (r := rEqD K) (op_eqD hr.units) opC_eq (ed_var 4) (ed_lst ad_nil)) (sds_one (sd_ret ed_non)) sds_nil)
      (sds_one (sd_set 1 sc__law_end.nd (ed_ixK K (ed_var 4) ed_int))))))
      (sds_one (sd_ret (ed_var 1))))⟩
theorem sc__law_is_word : FnScope ["machine", "thing", "one"] ["machine", "thing"] (fnScope s__law_is_word) := fnScope_by (by decide +kernel)
theorem ok__law_is_word {f : Addr} {fd : FuncData} (F : Def K mg "_law_is_word" s__law_is_word f fd) (b : Binds K fd ["machine", "thing"] []) (T : Txt K mg) (c__law_letters : Cal P w K mg base 1 "_law_letters" (SpF K mg 1 f__law_letters) []) : Cal P w K mg base 2 "_law_is_word" (SpF K mg 2 f__law_is_word) [] := by
  refine def_ok (N := ["machine", "thing", "one"]) (m := b__law_is_word) F b sc__law_is_word rfl fun cdv A outer s H E hr => ⟨_, (sds_cons (sd_if (WD.td (wd_or (td_not (td_truK K (ed_isiK K kit_tuple T.isinstance T.tuple (ed_var 1) (by decide +kernel)))) (wd_or1 (td_cmp op_gt opC_int (ed_ca (r := rLenK K) call_len ca_len T.len (by decide +kernel) (ad_cons (gd (ed_var 1)) ad_nil)) ed_int)))) (sds_one (sd_ret ed_bl)) sds_nil)
      (sds_one (sd_ret (ed_cmp (r := rEqD K) (op_eqD hr.units) opC_eq (ed_lc [("one", 2)] rfl sc__law_is_word.nd (wi_seqSK K (ed_var 1)) (fun _ _ _ _ _ => (gt_name 2 sc__law_is_word.nd)) (fun _ _ _ _ _ => (tds_one (WD.td (wd_or (td_not (td_truK K (ed_isiK K kit_str T.isinstance T.str (ed_var 2) (by decide +kernel)))) (wd_or1 (td_cmp (r := rNinA K) (op_ninA (un65 hr)) opC_ninA (ed_var 2) (ed_defK K mg c__law_letters hr (by decide) (ad_cons (gd (ed_var 0)) ad_nil)))))))) (fun _ _ _ _ _ => ed_int)) (ed_lst ad_nil)))))⟩
theorem sc__law_is_row : FnScope ["machine", "thing"] ["machine", "thing"] (fnScope s__law_is_row) := fnScope_by (by decide +kernel)
theorem ok__law_is_row {f : Addr} {fd : FuncData} (F : Def K mg "_law_is_row" s__law_is_row f fd) (b : Binds K fd ["machine", "thing"] []) (T : Txt K mg) (c__law_is_word : Cal P w K mg base 2 "_law_is_word" (SpF K mg 2 f__law_is_word) []) (c__law_end : Cal P w K mg base 2 "_law_end" (SpF K mg 3 f__law_end) []) : Cal P w K mg base 3 "_law_is_row" (SpF K mg 2 f__law_is_row) [] := by
  refine def_ok (N := ["machine", "thing"]) (m := b__law_is_row) F b sc__law_is_row rfl fun cdv A outer s H E hr => ⟨_, (sds_one (sd_ret (ed_and (ed_defK K mg c__law_is_word hr (by decide) (ad_cons (gd (ed_var 0)) (ad_cons (gd (ed_var 1)) ad_nil))) (ed_one (ed_cmp op_notN opC_isnot (ed_defK K mg c__law_end hr (by decide) (ad_cons (gd (ed_var 0)) (ad_cons (gd ed_int) (ad_cons (gd (ed_var 1)) ad_nil)))) ed_non)))))⟩
theorem sc__law_short_rows : FnScope ["machine", "found", "line", "later", "row", "ends", "letter", "there"] ["machine"] (fnScope s__law_short_rows) := fnScope_by (by decide +kernel)
theorem ok__law_short_rows {f : Addr} {fd : FuncData} (F : Def K mg "_law_short_rows" s__law_short_rows f fd) (b : Binds K fd ["machine"] []) (T : Txt K mg) (c__law_moves : Cal P w K mg base 1 "_law_moves" (SpF K mg 2 f__law_moves) []) : Cal P w K mg base 2 "_law_short_rows" (SpF K mg 1 f__law_short_rows) [] := by
  refine def_ok (N := ["machine", "found", "line", "later", "row", "ends", "letter", "there"]) (m := b__law_short_rows) F b sc__law_short_rows rfl fun cdv A outer s H E hr => ⟨_, (sds_cons (sd_parOwn 1 2 rfl sc__law_short_rows.nd ad_nil (ed_lst (ad_cons (gd (ed_tup (ad_cons (gd (ed_tup ad_nil)) (ad_cons (gd (ed_tup (ad_cons (gd ed_int) ad_nil))) ad_nil)))) ad_nil)))
      (sds_cons (sd_while PassesOwn.never (td_cmp (r := rNeD K) (op_neD hr.units) opC_ne (ed_var 2) (ed_lst ad_nil)) (sds_cons (sd_set 3 sc__law_short_rows.nd (ed_lst ad_nil))
      (sds_cons (sd_for PassesOwn.never rfl (wi_seqSK K (ed_var 2)) (gt_tupK K rfl (gts_cons (gt_name 4 sc__law_short_rows.nd) (gts_cons (gt_name 5 sc__law_short_rows.nd) gts_nil))) (sds_cons (let X0 := (ed_var 4); sd_app 1 X0 (hpe := (pe_bm PySem.F.plainAttrs_list PySem.F.slot_list_append PySem.F.type_list_append mt_append (pe_var (i := 1) rfl (by first | exact Or.inl rfl | exact Or.inr (Or.inl rfl) | exact Or.inr (Or.inr rfl)) (by decide) (by decide)) (pa_cons (ED.pe X0) pa_nil))))
      (sds_one (sd_for PassesOwn.never rfl (wi_seqSK K (ed_defK K mg c__law_moves hr (by decide) (ad_cons (gd (ed_var 0)) (ad_cons (gd (ed_ixK K (ed_var 5) (ed_neg ed_int))) ad_nil)))) (gt_tupK K rfl (gts_cons (gt_name 6 sc__law_short_rows.nd) (gts_cons (gt_name 7 sc__law_short_rows.nd) gts_nil))) (sds_one (sd_set 3 sc__law_short_rows.nd (ed_addK K (ed_var 3) (ed_if (td_cmp (r := rNinA K) (op_ninA (un65 hr)) opC_ninA (ed_var 7) (ed_var 5)) (ed_lst (ad_cons (gd (ed_tup (ad_cons (gd (ed_addK K (ed_var 4) (ed_tup (ad_cons (gd (ed_var 6)) ad_nil)))) (ad_cons (gd (ed_addK K (ed_var 5) (ed_tup (ad_cons (gd (ed_var 7)) ad_nil)))) ad_nil)))) ad_nil)) (ed_lst ad_nil)))))))))
      (sds_one (sd_set 2 sc__law_short_rows.nd (ed_var 3))))))
      (sds_fz 1 (sds_one (sd_ret (ed_var 1))))))⟩
theorem sc__law_ends_along : FnScope ["machine", "row", "many"] ["machine", "row"] (fnScope s__law_ends_along) := fnScope_by (by decide +kernel)
theorem ok__law_ends_along {f : Addr} {fd : FuncData} (F : Def K mg "_law_ends_along" s__law_ends_along f fd) (b : Binds K fd ["machine", "row"] []) (T : Txt K mg) (c__law_end : Cal P w K mg base 2 "_law_end" (SpF K mg 3 f__law_end) []) : Cal P w K mg base 3 "_law_ends_along" (SpF K mg 2 f__law_ends_along) [] := by
  refine def_ok (N := ["machine", "row", "many"]) (m := b__law_ends_along) F b sc__law_ends_along rfl fun cdv A outer s H E hr => ⟨_, (sds_one (sd_ret (ed_lc [("many", 2)] rfl sc__law_ends_along.nd (wi_range1 T.range (ad_cons (gd (ed_addK K (ed_ca (r := rLenK K) call_len ca_len T.len (by decide +kernel) (ad_cons (gd (ed_var 1)) ad_nil)) ed_int)) ad_nil)) (fun _ _ _ _ _ => (gt_name 2 sc__law_ends_along.nd)) (fun _ _ _ _ _ => tds_nil) (fun _ _ _ _ _ => (ed_defK K mg c__law_end hr (by decide) (ad_cons (gd (ed_var 0)) (ad_cons (gd ed_int) (ad_cons (gd (ed_sliceK K (ed_var 1) od_none (od_some (ed_var 2)))) ad_nil))))))))⟩
theorem sc__law_walk : FnScope ["machine", "row", "kept", "gone", "letter", "ends", "at"] ["machine", "row"] (fnScope s__law_walk) := fnScope_by (by decide +kernel)
theorem ok__law_walk {f : Addr} {fd : FuncData} (F : Def K mg "_law_walk" s__law_walk f fd) (b : Binds K fd ["machine", "row"] []) (T : Txt K mg) (c__law_ends_along : Cal P w K mg base 3 "_law_ends_along" (SpF K mg 2 f__law_ends_along) []) : Cal P w K mg base 4 "_law_walk" (SpF K mg 2 f__law_walk) [] := by
  refine def_ok (N := ["machine", "row", "kept", "gone", "letter", "ends", "at"]) (m := b__law_walk) F b sc__law_walk rfl fun cdv A outer s H E hr => ⟨_, (sds_cons (sd_parM 2 3 rfl sc__law_walk.nd (md_d (ed_tup ad_nil)) (md_lst ad_nil))
      (sds_cons (sd_for PassesOwn.never rfl (wi_seqSK K (ed_var 1)) (gt_name 4 sc__law_walk.nd) (sds_cons (sd_set 2 sc__law_walk.nd (ed_addK K (ed_var 2) (ed_tup (ad_cons (gd (ed_var 4)) ad_nil))))
      (sds_cons (sd_set 5 sc__law_walk.nd (ed_defK K mg c__law_ends_along hr (by decide) (ad_cons (gd (ed_var 0)) (ad_cons (gd (ed_var 2)) ad_nil))))
      (sds_one (sd_if (td_cmp (r := rInA K) (op_inA (un65 hr)) opC_inA (ed_ixK K (ed_var 5) (ed_neg ed_int)) (ed_sliceK K (ed_var 5) od_none (od_some (ed_neg ed_int)))) (sds_cons (sd_set 6 sc__law_walk.nd (ed_indexK K (un65 hr) (ed_var 5) (ed_ixK K (ed_var 5) (ed_neg ed_int))))
      (sds_cons (let X0 := (ed_tup (ad_cons (gd (ed_sliceK K (ed_var 2) od_none (od_some (ed_var 6)))) (ad_cons (gd (ed_sliceK K (ed_var 2) (od_some (ed_var 6)) od_none)) ad_nil))); sd_app 3 X0 (hpe := (pe_bm PySem.F.plainAttrs_list PySem.F.slot_list_append PySem.F.type_list_append mt_append (pe_var (i := 3) rfl (by first | exact Or.inl rfl | exact Or.inr (Or.inl rfl) | exact Or.inr (Or.inr rfl)) (by decide) (by decide)) (pa_cons (ED.pe X0) pa_nil))))
      (sds_one (sd_set 2 sc__law_walk.nd (ed_sliceK K (ed_var 2) od_none (od_some (ed_var 6))))))) sds_nil)))))
      (sds_fz 3 (sds_one (sd_ret (ed_tup (ad_cons (gd (ed_var 2)) (ad_cons (gd (ed_ct (r := ZT.rTupleP K) ZT.call_tupleP ca_tuple T.tuple (by decide +kernel) (ad_cons (gd (ed_var 3)) ad_nil))) ad_nil))))))))⟩
theorem sc__law_first : FnScope ["machine", "found", "row", "ends", "letter", "there"] ["machine"] (fnScope s__law_first) := fnScope_by (by decide +kernel)
theorem ok__law_first {f : Addr} {fd : FuncData} (F : Def K mg "_law_first" s__law_first f fd) (b : Binds K fd ["machine"] []) (T : Txt K mg) (c__law_short_rows : Cal P w K mg base 2 "_law_short_rows" (SpF K mg 1 f__law_short_rows) []) (c__law_ends_along : Cal P w K mg base 3 "_law_ends_along" (SpF K mg 2 f__law_ends_along) []) (c__law_moves : Cal P w K mg base 1 "_law_moves" (SpF K mg 2 f__law_moves) []) : Cal P w K mg base 4 "_law_first" (SpF K mg 1 f__law_first) [] := by
  refine def_ok (N := ["machine", "found", "row", "ends", "letter", "there"]) (m := b__law_first) F b sc__law_first rfl fun cdv A outer s H E hr => ⟨_, (sds_cons (sd_own 1 sc__law_first.nd ad_nil)
      (sds_cons (sd_for PassesOwn.never rfl (wi_seqSK K (ed_defK K mg c__law_short_rows hr (by decide) (ad_cons (gd (ed_var 0)) ad_nil))) (gt_name 2 sc__law_first.nd) (sds_cons (sd_set 3 sc__law_first.nd (ed_defK K mg c__law_ends_along hr (by decide) (ad_cons (gd (ed_var 0)) (ad_cons (gd (ed_var 2)) ad_nil))))
      (sds_one (sd_for PassesOwn.never rfl (wi_seqSK K (ed_defK K mg c__law_moves hr (by decide) (ad_cons (gd (ed_var 0)) (ad_cons (gd (ed_ixK K (ed_var 3) (ed_neg ed_int))) ad_nil)))) (gt_tupK K rfl (gts_cons (gt_name 4 sc__law_first.nd) (gts_cons (gt_name 5 sc__law_first.nd) gts_nil))) (sds_one (sd_if (td_cmp (r := rInA K) (op_inA (un65 hr)) opC_inA (ed_var 5) (ed_var 3)) (sds_one (let X0 := (ed_tup (ad_cons (gd (ed_sliceK K (ed_var 2) od_none (od_some (ed_indexK K (un65 hr) (ed_var 3) (ed_var 5))))) (ad_cons (gd (ed_addK K (ed_sliceK K (ed_var 2) (od_some (ed_indexK K (un65 hr) (ed_var 3) (ed_var 5))) od_none) (ed_tup (ad_cons (gd (ed_var 4)) ad_nil)))) ad_nil))); sd_app 1 X0 (hpe := (pe_bm PySem.F.plainAttrs_list PySem.F.slot_list_append PySem.F.type_list_append mt_append (pe_var (i := 1) rfl (by first | exact Or.inl rfl | exact Or.inr (Or.inl rfl) | exact Or.inr (Or.inr rfl)) (by decide) (by decide)) (pa_cons (ED.pe X0) pa_nil))))) sds_nil))))))
      (sds_fz 1 (sds_one (sd_ret (ed_ct (r := ZT.rTupleP K) ZT.call_tupleP ca_tuple T.tuple (by decide +kernel) (ad_cons (gd (ed_var 1)) ad_nil)))))))⟩
theorem sc__law_drawn_row : FnScope ["bag", "machine", "many", "row", "at", "step", "moves", "letter"] ["bag", "machine", "many"] (fnScope s__law_drawn_row) := fnScope_by (by decide +kernel)
theorem ok__law_drawn_row {f : Addr} {fd : FuncData} (F : Def K mg "_law_drawn_row" s__law_drawn_row f fd) (b : Binds K fd ["bag", "machine", "many"] []) (T : Txt K mg) (c__law_moves : Cal P w K mg base 1 "_law_moves" (SpF K mg 2 f__law_moves) []) (c__law_some : Cal P w K mg base 2 "_law_some" (SpF K mg 2 f__law_some) []) : Cal P w K mg base 3 "_law_drawn_row" (SpF K mg 3 f__law_drawn_row) [] := by
  refine def_ok (N := ["bag", "machine", "many", "row", "at", "step", "moves", "letter"]) (m := b__law_drawn_row) F b sc__law_drawn_row rfl fun cdv A outer s H E hr => ⟨_, (sds_cons (sd_asg (ed_tup (ad_cons (gd (ed_tup ad_nil)) (ad_cons (gd ed_int) ad_nil))) (gt_tupK K rfl (gts_cons (gt_name 3 sc__law_drawn_row.nd) (gts_cons (gt_name 4 sc__law_drawn_row.nd) gts_nil))))
      (sds_cons (sd_for PassesOwn.never rfl (wi_range1 T.range (ad_cons (gd (ed_var 2)) ad_nil)) (gt_name 5 sc__law_drawn_row.nd) (sds_cons (sd_set 6 sc__law_drawn_row.nd (ed_defK K mg c__law_moves hr (by decide) (ad_cons (gd (ed_var 1)) (ad_cons (gd (ed_var 4)) ad_nil))))
      (sds_one (sd_if (td_cmp (r := rNeD K) (op_neD hr.units) opC_ne (ed_var 6) (ed_lst ad_nil)) (sds_cons (sd_asg (ed_defK K mg c__law_some hr (by decide) (ad_cons (gd_bag 0) (ad_cons (gd (ed_var 6)) ad_nil))) (gt_tupK K rfl (gts_cons (gt_name 7 sc__law_drawn_row.nd) (gts_cons (gt_name 4 sc__law_drawn_row.nd) gts_nil))))
      (sds_one (sd_set 3 sc__law_drawn_row.nd (ed_addK K (ed_var 3) (ed_tup (ad_cons (gd (ed_var 7)) ad_nil)))))) sds_nil))))
      (sds_one (sd_ret (ed_var 3)))))⟩
theorem sc__law_bag : FnScope ["script", "cell"] ["script"] (fnScope s__law_bag) := fnScope_by (by decide +kernel)
theorem ok__law_bag {f : Addr} {fd : FuncData} (F : Def K mg "_law_bag" s__law_bag f fd) (b : Binds K fd ["script"] []) (T : Txt K mg) : Cal P w K mg base 1 "_law_bag" (spBag K) [] := by
  refine cal0 (k := 0) F b .nil sc__law_bag (fun vs H Q E h => by obtain ⟨a, ns, e, _⟩ := h; rw [e]; rfl) fun cdv A outer s H vs Q E hr h => ?_
  obtain ⟨a, ns, e, hs, hl, k⟩ := h
  subst e
  refine ⟨_, pss_one (ps_ret (pe_lst (pa_cons pe_int (pa_cons pe_int (pa_cons pe_int (pa_cons (pe_lc (own := [("cell", 1)]) rfl sc__law_bag.nd (pi_list (pe_slice sl_list (pe_var (i := 0) rfl (by first | exact Or.inl rfl | exact Or.inr (Or.inl rfl) | exact Or.inr (Or.inr rfl)) (by decide) (by decide)) po_none (po_some pe_int))) (blkOk_by rfl) (fun _ _ _ _ _ => pg_name (i := 1) sc__law_bag.nd rfl (Or.inl rfl)) (fun _ _ _ _ _ => pts_nil) (fun _ _ _ _ _ => pe_callB call_abs rfl T.abs (by decide +kernel) (pa_cons (pe_var (i := 1) rfl (by first | exact Or.inl rfl | exact Or.inr (Or.inl rfl) | exact Or.inr (Or.inr rfl)) (by decide) (by decide)) pa_nil))) pa_nil)))))), ?_⟩
  exact bag_sem (i := 1) (by show 1 < 2; decide) rfl hs hl k
theorem sc_law : FnScope ["script", "bag", "turn", "machine", "shorts", "firsts", "trial", "row", "ends", "kept", "gone", "thing", "good", "short", "letter", "one"] ["script"] (fnScope s_law) := fnScope_by (by decide +kernel)
theorem ok_law {f : Addr} {fd : FuncData} (F : C8.Fun K "law" "law" s_law f fd) (T : Txt K mg) (c_bag : Cal P w K mg base 1 "_law_bag" (spBag K) []) (c__law_machine : Cal P w K mg base 3 "_law_machine" (SpF K mg 1 f__law_machine) []) (c__law_short_rows : Cal P w K mg base 2 "_law_short_rows" (SpF K mg 1 f__law_short_rows) []) (c__law_first : Cal P w K mg base 4 "_law_first" (SpF K mg 1 f__law_first) []) (c_short_rows : Cal P w K mg base 4 "short_rows" (SpF K mg 1 f_short_rows) []) (c_first_turns : CalX P w K mg base 9 "first_turns" (SpE K mg 1 f_first_turns)) (c__law_alike : Cal P w K mg base 1 "_law_alike" (SpF K mg 2 f__law_alike) []) (c__law_take : Cal P w K mg base 1 "_law_take" (SpF K mg 2 f__law_take) []) (c__law_drawn_row : Cal P w K mg base 3 "_law_drawn_row" (SpF K mg 3 f__law_drawn_row) []) (c__law_ends_along : Cal P w K mg base 3 "_law_ends_along" (SpF K mg 2 f__law_ends_along) []) (c__law_walk : Cal P w K mg base 4 "_law_walk" (SpF K mg 2 f__law_walk) []) (c_standings_along : CalX P w K mg base 8 "standings_along" (SpE K mg 2 f_standings_along)) (c_left_out : CalX P w K mg base 8 "left_out" (SpE K mg 2 f_left_out)) (c_turns_in : CalX P w K mg base 8 "turns_in" (SpE K mg 2 f_turns_in)) (c__law_end : Cal P w K mg base 2 "_law_end" (SpF K mg 3 f__law_end) []) (c__law_is_row : Cal P w K mg base 3 "_law_is_row" (SpF K mg 2 f__law_is_row) []) (c_is_short : CalX P w K mg base 9 "is_short" (SpE K mg 2 f_is_short)) (c__law_some : Cal P w K mg base 2 "_law_some" (SpF K mg 2 f__law_some) []) (c__law_letters : Cal P w K mg base 1 "_law_letters" (SpF K mg 1 f__law_letters) []) (c_next_left : CalX P w K mg base 9 "next_left" (SpE K mg 3 f_next_left)) {C_Refused fI_Refused cc_Refused cda_Refused : Addr} (X_Refused : PySem.OwnRefused.Txt P K mg C_Refused fI_Refused cc_Refused cda_Refused) {gf__law_caught : Addr} {fd__law_caught : FuncData} (F__law_caught : Def K mg "_law_caught" s__law_caught gf__law_caught fd__law_caught) (b__law_caught : Binds K fd__law_caught ["act"] []) {cL PL : Addr} (LK : LamK K mg base fd "law" cL PL) (hm : ∀ ns : List Int, ns.length ≤ 63 → ∃ B, m_law (envL 16 1) (bag0 ns) = .ret (.bool true) B) : FnOk P w K mg base C8.CX0 11 f fd ["script"] (spLawT K) := by
  refine fn0C (k := 10) F sc_law (fun vs H Q E h => by obtain ⟨a, ns, e, _⟩ := h; rw [e]; rfl) fun cdv hcdv A outer s H vs Q E hr h => ?_
  obtain ⟨a, ns, e, hs, hl, hTT, k⟩ := h
  have LO : LamOK (BX P w K mg base ["script", "bag", "turn", "machine", "shorts", "firsts", "trial", "row", "ends", "kept", "gone", "thing", "good", "short", "letter", "one"] "law" s_law f cdv A outer s H E) cL PL := LK.ok hcdv rfl rfl rfl rfl rfl
  subst e
  obtain ⟨t, R⟩ : ∃ t, SDs (BX P w K mg base ["script", "bag", "turn", "machine", "shorts", "firsts", "trial", "row", "ends", "kept", "gone", "thing", "good", "short", "letter", "one"] "law" s_law f cdv A outer s H E) W0 ((fnBody s_law).drop 1) t m_law := ⟨_, (sds_cons (sd_for PassesOwn.never rfl (wi_range1 T.range (ad_cons (gd ed_int) ad_nil)) (gt_name 2 sc_law.nd) (sds_cons (sd_set 3 sc_law.nd (ed_defK K mg c__law_machine hr (by decide) (ad_cons (gd_bag 1) ad_nil)))
      (sds_cons (sd_asg (ed_tup (ad_cons (gd (ed_ct (r := ZT.rTupleP K) ZT.call_tupleP ca_tuple T.tuple (by decide +kernel) (ad_cons (gd (ed_defK K mg c__law_short_rows hr (by decide) (ad_cons (gd (ed_var 3)) ad_nil))) ad_nil))) (ad_cons (gd (ed_defK K mg c__law_first hr (by decide) (ad_cons (gd (ed_var 3)) ad_nil))) ad_nil))) (gt_tupK K rfl (gts_cons (gt_name 4 sc_law.nd) (gts_cons (gt_name 5 sc_law.nd) gts_nil))))
      (sds_cons (sd_if (td_not (td_truK K (ed_defK K mg c__law_alike hr (by decide) (ad_cons (gd (ed_lst (ad_cons (gd (ed_defK K mg c_short_rows hr (by decide) (ad_cons (gd (ed_var 3)) ad_nil))) (ad_cons (gd (ed_callE K mg c_first_turns L2.takes0 hr (by decide) (ad_cons (gd (ed_var 3)) ad_nil))) ad_nil)))) (ad_cons (gd (ed_lst (ad_cons (gd (ed_var 4)) (ad_cons (gd (ed_var 5)) ad_nil)))) ad_nil))))) (sds_one (sd_ret ed_bl)) sds_nil)
      (sds_one (sd_for PassesOwn.never rfl (wi_range1 T.range (ad_cons (gd ed_int) ad_nil)) (gt_name 6 sc_law.nd) (sds_cons (sd_set 7 sc_law.nd (ed_defK K mg c__law_drawn_row hr (by decide) (ad_cons (gd_bag 1) (ad_cons (gd (ed_var 3)) (ad_cons (gd (ed_defK K mg c__law_take hr (by decide) (ad_cons (gd_bag 1) (ad_cons (gd ed_int) ad_nil)))) ad_nil)))))
      (sds_cons (sd_asg (ed_tup (ad_cons (gd (ed_defK K mg c__law_ends_along hr (by decide) (ad_cons (gd (ed_var 3)) (ad_cons (gd (ed_var 7)) ad_nil)))) (ad_cons (gd (ed_defK K mg c__law_walk hr (by decide) (ad_cons (gd (ed_var 3)) (ad_cons (gd (ed_var 7)) ad_nil)))) ad_nil))) (gt_tupK K rfl (gts_cons (gt_name 8 sc_law.nd) (gts_cons (gt_tupK K rfl (gts_cons (gt_name 9 sc_law.nd) (gts_cons (gt_name 10 sc_law.nd) gts_nil))) gts_nil))))
      (sds_cons (sd_if (td_not (td_truK K (ed_defK K mg c__law_alike hr (by decide) (ad_cons (gd (ed_lst (ad_cons (gd (ed_callE K mg c_standings_along L2.takes0 hr (by decide) (ad_cons (gd (ed_var 3)) (ad_cons (gd (ed_var 7)) ad_nil)))) (ad_cons (gd (ed_callE K mg c_left_out L2.takes0 hr (by decide) (ad_cons (gd (ed_var 3)) (ad_cons (gd (ed_var 7)) ad_nil)))) (ad_cons (gd (ed_callE K mg c_turns_in L2.takes0 hr (by decide) (ad_cons (gd (ed_var 3)) (ad_cons (gd (ed_var 7)) ad_nil)))) ad_nil))))) (ad_cons (gd (ed_lst (ad_cons (gd (ed_ct (r := ZT.rTupleP K) ZT.call_tupleP ca_tuple T.tuple (by decide +kernel) (ad_cons (gd (ed_var 8)) ad_nil))) (ad_cons (gd (ed_var 9)) (ad_cons (gd (ed_var 10)) ad_nil))))) ad_nil))))) (sds_one (sd_ret ed_bl)) sds_nil)
      (sds_cons (sd_if (WD.td (wd_or (td_cmp (r := rNeD K) (op_neD hr.units) opC_ne (ed_lc [("one", 15)] rfl sc_law.nd (wi_seqSK K (ed_var 10)) (fun _ _ _ _ _ => (gt_name 15 sc_law.nd)) (fun _ _ _ _ _ => (tds_one (td_cmp (r := rNinA K) (op_ninA (un65 hr)) opC_ninA (ed_var 15) (ed_var 5)))) (fun _ _ _ _ _ => ed_int)) (ed_lst ad_nil)) (wd_or (td_cmp (r := rNeD K) (op_neD hr.units) opC_ne (ed_defK K mg c__law_end hr (by decide) (ad_cons (gd (ed_var 3)) (ad_cons (gd ed_int) (ad_cons (gd (ed_var 9)) ad_nil)))) (ed_ixK K (ed_var 8) (ed_neg ed_int))) (wd_or1 (td_cmp (r := rNinA K) (op_ninA (un65 hr)) opC_ninA (ed_var 9) (ed_var 4)))))) (sds_one (sd_ret ed_bl)) sds_nil)
      (sds_cons (sd_for PassesOwn.never rfl (wi_seqSK K (ed_tup (ad_cons (gd (ed_var 7)) (ad_cons (gd (ed_var 9)) (ad_cons (gd (ed_ct (r := rListK K) call_list_of ca_list T.list (by decide +kernel) (ad_cons (gd (ed_var 7)) ad_nil))) (ad_cons (gd ed_non) (ad_cons (gd (ed_tup (ad_cons (gd ed_str) ad_nil))) (ad_cons (gd (ed_addK K (ed_var 7) (ed_tup (ad_cons (gd ed_str) ad_nil)))) (ad_cons (gd ed_int) ad_nil))))))))) (gt_name 11 sc_law.nd) (sds_cons (sd_set 12 sc_law.nd (ed_defK K mg c__law_is_row hr (by decide) (ad_cons (gd (ed_var 3)) (ad_cons (gd (ed_var 11)) ad_nil))))
      (sds_cons (sd_set 13 sc_law.nd (ed_and (ed_var 12) (ed_one (ed_cmp (r := rEqD K) (op_eqD hr.units) opC_eq (ed_lenSetI K T.len T.set (ed_defK K mg c__law_ends_along hr (by decide) (ad_cons (gd (ed_var 3)) (ad_cons (gd (ed_var 11)) ad_nil)))) (ed_addK K (ed_ca (r := rLenK K) call_len ca_len T.len (by decide +kernel) (ad_cons (gd (ed_var 11)) ad_nil)) ed_int)))))
      (sds_cons (sd_if (td_not (td_truK K (ed_defK K mg c__law_alike hr (by decide) (ad_cons (gd (ed_callE K mg c_is_short L2.takes0 hr (by decide) (ad_cons (gd (ed_var 3)) (ad_cons (gd (ed_var 11)) ad_nil)))) (ad_cons (gd (ed_var 13)) ad_nil))))) (sds_one (sd_ret ed_bl)) sds_nil)
      (sds_cons (sd_if (WD.td (wd_and (td_not (td_truK K (ed_var 12))) (wd_and1 (td_cmp (r := rNeD K) (op_neD hr.units) opC_ne (ed_lam (k := 8) K mg F__law_caught b__law_caught sc__law_caught (gv__law_caught X_Refused rfl rfl) LO (by first | exact hr | exact hr.mono (by decide)) (LamX.lamS_by (show LamX.lamSB (fnScope s_law) _ = true by decide +kernel)) (fun _ _ _ _ _ _ _ hrL => (ed_callE K mg c_left_out takes_lam hrL (by decide) (ad_cons (gd (ed_var 3)) (ad_cons (gd (ed_var 11)) ad_nil))))) (ed_tup (ad_cons (gd ed_str) (ad_cons (gd ed_str) ad_nil))))))) (sds_one (sd_ret ed_bl)) sds_nil)
      (sds_one (sd_if (WD.td (wd_and (td_not (td_truK K (ed_var 12))) (wd_and1 (td_cmp (r := rNeD K) (op_neD hr.units) opC_ne (ed_lam (k := 8) K mg F__law_caught b__law_caught sc__law_caught (gv__law_caught X_Refused rfl rfl) LO (by first | exact hr | exact hr.mono (by decide)) (LamX.lamS_by (show LamX.lamSB (fnScope s_law) _ = true by decide +kernel)) (fun _ _ _ _ _ _ _ hrL => (ed_callE K mg c_standings_along takes_lam hrL (by decide) (ad_cons (gd (ed_var 3)) (ad_cons (gd (ed_var 11)) ad_nil))))) (ed_tup (ad_cons (gd ed_str) (ad_cons (gd ed_str) ad_nil))))))) (sds_one (sd_ret ed_bl)) sds_nil)))))))
      (sds_cons (sd_set 13 sc_law.nd (ed_defK K mg c__law_some hr (by decide) (ad_cons (gd_bag 1) (ad_cons (gd (ed_ct (r := rListK K) call_list_of ca_list T.list (by decide +kernel) (ad_cons (gd (ed_var 4)) ad_nil))) ad_nil))))
      (sds_one (sd_for PassesOwn.never rfl (wi_seqSK K (ed_addK K (ed_defK K mg c__law_letters hr (by decide) (ad_cons (gd (ed_var 3)) ad_nil)) (ed_lst (ad_cons (gd ed_str) ad_nil)))) (gt_name 14 sc_law.nd) (sds_cons (sd_set 12 sc_law.nd (ed_cmp op_notN opC_isnot (ed_defK K mg c__law_end hr (by decide) (ad_cons (gd (ed_var 3)) (ad_cons (gd ed_int) (ad_cons (gd (ed_addK K (ed_var 13) (ed_tup (ad_cons (gd (ed_var 14)) ad_nil)))) ad_nil)))) ed_non))
      (sds_one (sd_if (td_not (td_truK K (ed_defK K mg c__law_alike hr (by decide) (ad_cons (gd (ed_callE K mg c_next_left L2.takes0 hr (by decide) (ad_cons (gd (ed_var 3)) (ad_cons (gd (ed_var 13)) (ad_cons (gd (ed_var 14)) ad_nil))))) (ad_cons (gd (ed_if (td_truK K (ed_var 12)) (ed_ixK K (ed_defK K mg c__law_walk hr (by decide) (ad_cons (gd (ed_var 3)) (ad_cons (gd (ed_addK K (ed_var 13) (ed_tup (ad_cons (gd (ed_var 14)) ad_nil)))) ad_nil))) ed_int) ed_non)) ad_nil))))) (sds_one (sd_ret ed_bl)) sds_nil)))))))))))))))))
      (sds_one (sd_ret ed_bl)))⟩
  refine ⟨_, pss_cons (ps_set (i := 1) sc_law.nd rfl (by first | exact Or.inl rfl | exact Or.inr rfl) (pe_c c_bag hr (by decide) rfl (pa_cons (pe_var (i := 0) rfl (by first | exact Or.inl rfl | exact Or.inr (Or.inl rfl) | exact Or.inr (Or.inr rfl)) (by decide) (by decide)) pa_nil))) R.pe, ?_⟩
  exact law_sem (n := 16) (ib := 1) R rfl (by decide) rfl hs hl (hm ns hl) k _ (tabs0 hTT)
end
theorem all_mk {l : PySem.W.OpenLaw} {q : Program} {w : World} {K : PySem.W.Frag} {h : Heap} {mg : Str → Option Value} {fa : Addr} (X : K.In h) (G : h.Ns mainGlobals mg) (hfa : mg "law" = some (.ref fa))
  (tt : ∀ (x : Str) (c P : Addr), ((PyProof.Rows.recsOf q).find? fun e => e.name == x).isSome = true → PySem.W.tabIn K x = some (c, P) → PySem.W.CodeHd h c P ∧ h.get? P = some { cls := .none, data := .fields #[] })
  (hm : ∀ ns : List Int, ns.length ≤ 63 → ∃ B, m_law (envL 16 1) (bag0 ns) = .ret (.bool true) B)
  {g0 : Addr} {oc0 kV0 dc0 pm0 cd0 ct0 : Value} {od0 an0 : Option Addr} {sl0 : Array (Option Value)}
  {g1 : Addr} {oc1 kV1 dc1 pm1 cd1 ct1 : Value} {od1 an1 : Option Addr} {sl1 : Array (Option Value)}
  {g2 : Addr} {oc2 kV2 dc2 pm2 cd2 ct2 : Value} {od2 an2 : Option Addr} {sl2 : Array (Option Value)}
  {g3 : Addr} {oc3 kV3 dc3 pm3 cd3 ct3 : Value} {od3 an3 : Option Addr} {sl3 : Array (Option Value)}
  {g4 : Addr} {oc4 kV4 dc4 pm4 cd4 ct4 : Value} {od4 an4 : Option Addr} {sl4 : Array (Option Value)}
  {g5 : Addr} {oc5 kV5 dc5 pm5 cd5 ct5 : Value} {od5 an5 : Option Addr} {sl5 : Array (Option Value)}
  {g6 : Addr} {oc6 kV6 dc6 pm6 cd6 ct6 : Value} {od6 an6 : Option Addr} {sl6 : Array (Option Value)}
  {g7 : Addr} {oc7 kV7 dc7 pm7 cd7 ct7 : Value} {od7 an7 : Option Addr} {sl7 : Array (Option Value)}
  {g8 : Addr} {oc8 kV8 dc8 pm8 cd8 ct8 : Value} {od8 an8 : Option Addr} {sl8 : Array (Option Value)}
  {g9 : Addr} {oc9 kV9 dc9 pm9 cd9 ct9 : Value} {od9 an9 : Option Addr} {sl9 : Array (Option Value)}
  {g10 : Addr} {oc10 kV10 dc10 pm10 cd10 ct10 : Value} {od10 an10 : Option Addr} {sl10 : Array (Option Value)}
  {g11 : Addr} {oc11 kV11 dc11 pm11 cd11 ct11 : Value} {od11 an11 : Option Addr} {sl11 : Array (Option Value)}
  {g12 : Addr} {oc12 kV12 dc12 pm12 cd12 ct12 : Value} {od12 an12 : Option Addr} {sl12 : Array (Option Value)}
  {g13 : Addr} {oc13 kV13 dc13 pm13 cd13 ct13 : Value} {od13 an13 : Option Addr} {sl13 : Array (Option Value)}
  {g14 : Addr} {oc14 kV14 dc14 pm14 cd14 ct14 : Value} {od14 an14 : Option Addr} {sl14 : Array (Option Value)}
  {g15 : Addr} {oc15 kV15 dc15 pm15 cd15 ct15 : Value} {od15 an15 : Option Addr} {sl15 : Array (Option Value)}
  {g16 : Addr} {oc16 kV16 dc16 pm16 cd16 ct16 : Value} {od16 an16 : Option Addr} {sl16 : Array (Option Value)}
  {g17 : Addr} {oc17 kV17 dc17 pm17 cd17 ct17 : Value} {od17 an17 : Option Addr} {sl17 : Array (Option Value)}
  {g18 : Addr} {oc18 kV18 dc18 pm18 cd18 ct18 : Value} {od18 an18 : Option Addr} {sl18 : Array (Option Value)}
  {g19 : Addr} {oc19 kV19 dc19 pm19 cd19 ct19 : Value} {od19 an19 : Option Addr} {sl19 : Array (Option Value)}
  {g20 : Addr} {oc20 kV20 dc20 pm20 cd20 ct20 : Value} {od20 an20 : Option Addr} {sl20 : Array (Option Value)}
  {g21 : Addr} {oc21 kV21 dc21 pm21 cd21 ct21 : Value} {od21 an21 : Option Addr} {sl21 : Array (Option Value)}
  {g22 : Addr} {oc22 kV22 dc22 pm22 cd22 ct22 : Value} {od22 an22 : Option Addr} {sl22 : Array (Option Value)}
  {g23 : Addr} {oc23 kV23 dc23 pm23 cd23 ct23 : Value} {od23 an23 : Option Addr} {sl23 : Array (Option Value)}
  {g24 : Addr} {oc24 kV24 dc24 pm24 cd24 ct24 : Value} {od24 an24 : Option Addr} {sl24 : Array (Option Value)}
  {g25 : Addr} {oc25 kV25 dc25 pm25 cd25 ct25 : Value} {od25 an25 : Option Addr} {sl25 : Array (Option Value)}
  {g26 : Addr} {oc26 kV26 dc26 pm26 cd26 ct26 : Value} {od26 an26 : Option Addr} {sl26 : Array (Option Value)}
  {g27 : Addr} {oc27 kV27 dc27 pm27 cd27 ct27 : Value} {od27 an27 : Option Addr} {sl27 : Array (Option Value)}
  {g28 : Addr} {oc28 kV28 dc28 pm28 cd28 ct28 : Value} {od28 an28 : Option Addr} {sl28 : Array (Option Value)}
  {g29 : Addr} {oc29 kV29 dc29 pm29 cd29 ct29 : Value} {od29 an29 : Option Addr} {sl29 : Array (Option Value)}
  {g30 : Addr} {oc30 kV30 dc30 pm30 cd30 ct30 : Value} {od30 an30 : Option Addr} {sl30 : Array (Option Value)}
  {g31 : Addr} {oc31 kV31 dc31 pm31 cd31 ct31 : Value} {od31 an31 : Option Addr} {sl31 : Array (Option Value)}
  {g32 : Addr} {oc32 kV32 dc32 pm32 cd32 ct32 : Value} {od32 an32 : Option Addr} {sl32 : Array (Option Value)}
  {g33 : Addr} {oc33 kV33 dc33 pm33 cd33 ct33 : Value} {od33 an33 : Option Addr} {sl33 : Array (Option Value)}
  {g34 : Addr} {oc34 kV34 dc34 pm34 cd34 ct34 : Value} {od34 an34 : Option Addr} {sl34 : Array (Option Value)}
  {g35 : Addr} {oc35 kV35 dc35 pm35 ct35 : Value} {od35 an35 : Option Addr} {sl35 : Array (Option Value)}
  {cL35 PL35 : Addr} {eL35 : Value} {dL35 : Option Addr} {vL35 : Array Value} {sL35 : Array (Option Value)}
  {C_Refused fI_Refused cc_Refused cda_Refused : Addr} {nm_Refused q_Refused : Str} {N_Refused : Addr} {bs_Refused bm_Refused : List Value} {sn_Refused : List Str} {sub_Refused : List Value} {ab_Refused : Bool} {col_Refused : Option Bool} {dd_Refused : Option Addr} {m0_Refused m1_Refused m2_Refused m3_Refused m5_Refused : Option Value} {cl_Refused : Value} {cld_Refused : Option Addr} {csl_Refused : Array (Option Value)} {ccl_Refused : Value} {cdd_Refused : Option Addr} {vs_Refused : Array Value} {ccs_Refused : Array (Option Value)} {file_Refused : Str} {tf_Refused : Tok} {oc_Refused : Value} {od_Refused : Option Addr} {doc_Refused pm_Refused : Value} {an_Refused : Option Addr} {ct_Refused : Value} {osl_Refused : Array (Option Value)}
  {t_MOST_LONG : Tok}
  (a0 : PySem.W.nsIn K mainGlobals "_wall" = some (some (.ref g0))) (l0 : K.lookup g0 = some ⟨oc0, od0, .func (PySem.W.fnOf "_wall" "_wall" (fnArgs s__wall) (fnBody s__wall) (fnScope s__wall) .none kV0 dc0 pm0 an0 cd0 ct0), sl0⟩) (c0 : PySem.W.codeIn K cd0 "_wall" = true) (k0 : PySem.W.keepIn K (.ref g0) = true)
  (a1 : PySem.W.nsIn K mainGlobals "names_of" = some (some (.ref g1))) (l1 : K.lookup g1 = some ⟨oc1, od1, .func (PySem.W.fnOf "names_of" "names_of" (fnArgs s_names_of) (fnBody s_names_of) (fnScope s_names_of) .none kV1 dc1 pm1 an1 cd1 ct1), sl1⟩) (c1 : PySem.W.codeIn K cd1 "names_of" = true) (k1 : PySem.W.keepIn K (.ref g1) = true)
  (a2 : PySem.W.nsIn K mainGlobals "index_of" = some (some (.ref g2))) (l2 : K.lookup g2 = some ⟨oc2, od2, .func (PySem.W.fnOf "index_of" "index_of" (fnArgs s_index_of) (fnBody s_index_of) (fnScope s_index_of) .none kV2 dc2 pm2 an2 cd2 ct2), sl2⟩) (c2 : PySem.W.codeIn K cd2 "index_of" = true) (k2 : PySem.W.keepIn K (.ref g2) = true)
  (a3 : PySem.W.nsIn K mainGlobals "moves_at" = some (some (.ref g3))) (l3 : K.lookup g3 = some ⟨oc3, od3, .func (PySem.W.fnOf "moves_at" "moves_at" (fnArgs s_moves_at) (fnBody s_moves_at) (fnScope s_moves_at) .none kV3 dc3 pm3 an3 cd3 ct3), sl3⟩) (c3 : PySem.W.codeIn K cd3 "moves_at" = true) (k3 : PySem.W.keepIn K (.ref g3) = true)
  (a4 : PySem.W.nsIn K mainGlobals "led" = some (some (.ref g4))) (l4 : K.lookup g4 = some ⟨oc4, od4, .func (PySem.W.fnOf "led" "led" (fnArgs s_led) (fnBody s_led) (fnScope s_led) .none kV4 dc4 pm4 an4 cd4 ct4), sl4⟩) (c4 : PySem.W.codeIn K cd4 "led" = true) (k4 : PySem.W.keepIn K (.ref g4) = true)
  (a5 : PySem.W.nsIn K mainGlobals "letters_of" = some (some (.ref g5))) (l5 : K.lookup g5 = some ⟨oc5, od5, .func (PySem.W.fnOf "letters_of" "letters_of" (fnArgs s_letters_of) (fnBody s_letters_of) (fnScope s_letters_of) .none kV5 dc5 pm5 an5 cd5 ct5), sl5⟩) (c5 : PySem.W.codeIn K cd5 "letters_of" = true) (k5 : PySem.W.keepIn K (.ref g5) = true)
  (a6 : PySem.W.nsIn K mainGlobals "end_by" = some (some (.ref g6))) (l6 : K.lookup g6 = some ⟨oc6, od6, .func (PySem.W.fnOf "end_by" "end_by" (fnArgs s_end_by) (fnBody s_end_by) (fnScope s_end_by) .none kV6 dc6 pm6 an6 cd6 ct6), sl6⟩) (c6 : PySem.W.codeIn K cd6 "end_by" = true) (k6 : PySem.W.keepIn K (.ref g6) = true)
  (a7 : PySem.W.nsIn K mainGlobals "is_word" = some (some (.ref g7))) (l7 : K.lookup g7 = some ⟨oc7, od7, .func (PySem.W.fnOf "is_word" "is_word" (fnArgs s_is_word) (fnBody s_is_word) (fnScope s_is_word) .none kV7 dc7 pm7 an7 cd7 ct7), sl7⟩) (c7 : PySem.W.codeIn K cd7 "is_word" = true) (k7 : PySem.W.keepIn K (.ref g7) = true)
  (a8 : PySem.W.nsIn K mainGlobals "is_row" = some (some (.ref g8))) (l8 : K.lookup g8 = some ⟨oc8, od8, .func (PySem.W.fnOf "is_row" "is_row" (fnArgs s_is_row) (fnBody s_is_row) (fnScope s_is_row) .none kV8 dc8 pm8 an8 cd8 ct8), sl8⟩) (c8 : PySem.W.codeIn K cd8 "is_row" = true) (k8 : PySem.W.keepIn K (.ref g8) = true)
  (a9 : PySem.W.nsIn K mainGlobals "check_row" = some (some (.ref g9))) (l9 : K.lookup g9 = some ⟨oc9, od9, .func (PySem.W.fnOf "check_row" "check_row" (fnArgs s_check_row) (fnBody s_check_row) (fnScope s_check_row) .none kV9 dc9 pm9 an9 cd9 ct9), sl9⟩) (c9 : PySem.W.codeIn K cd9 "check_row" = true) (k9 : PySem.W.keepIn K (.ref g9) = true)
  (a10 : PySem.W.nsIn K mainGlobals "standings_along" = some (some (.ref g10))) (l10 : K.lookup g10 = some ⟨oc10, od10, .func (PySem.W.fnOf "standings_along" "standings_along" (fnArgs s_standings_along) (fnBody s_standings_along) (fnScope s_standings_along) .none kV10 dc10 pm10 an10 cd10 ct10), sl10⟩) (c10 : PySem.W.codeIn K cd10 "standings_along" = true) (k10 : PySem.W.keepIn K (.ref g10) = true)
  (a11 : PySem.W.nsIn K mainGlobals "is_short" = some (some (.ref g11))) (l11 : K.lookup g11 = some ⟨oc11, od11, .func (PySem.W.fnOf "is_short" "is_short" (fnArgs s_is_short) (fnBody s_is_short) (fnScope s_is_short) .none kV11 dc11 pm11 an11 cd11 ct11), sl11⟩) (c11 : PySem.W.codeIn K cd11 "is_short" = true) (k11 : PySem.W.keepIn K (.ref g11) = true)
  (a12 : PySem.W.nsIn K mainGlobals "short_rows" = some (some (.ref g12))) (l12 : K.lookup g12 = some ⟨oc12, od12, .func (PySem.W.fnOf "short_rows" "short_rows" (fnArgs s_short_rows) (fnBody s_short_rows) (fnScope s_short_rows) .none kV12 dc12 pm12 an12 cd12 ct12), sl12⟩) (c12 : PySem.W.codeIn K cd12 "short_rows" = true) (k12 : PySem.W.keepIn K (.ref g12) = true)
  (a13 : PySem.W.nsIn K mainGlobals "walked_out" = some (some (.ref g13))) (l13 : K.lookup g13 = some ⟨oc13, od13, .func (PySem.W.fnOf "walked_out" "walked_out" (fnArgs s_walked_out) (fnBody s_walked_out) (fnScope s_walked_out) .none kV13 dc13 pm13 an13 cd13 ct13), sl13⟩) (c13 : PySem.W.codeIn K cd13 "walked_out" = true) (k13 : PySem.W.keepIn K (.ref g13) = true)
  (a14 : PySem.W.nsIn K mainGlobals "left_out" = some (some (.ref g14))) (l14 : K.lookup g14 = some ⟨oc14, od14, .func (PySem.W.fnOf "left_out" "left_out" (fnArgs s_left_out) (fnBody s_left_out) (fnScope s_left_out) .none kV14 dc14 pm14 an14 cd14 ct14), sl14⟩) (c14 : PySem.W.codeIn K cd14 "left_out" = true) (k14 : PySem.W.keepIn K (.ref g14) = true)
  (a15 : PySem.W.nsIn K mainGlobals "turns_in" = some (some (.ref g15))) (l15 : K.lookup g15 = some ⟨oc15, od15, .func (PySem.W.fnOf "turns_in" "turns_in" (fnArgs s_turns_in) (fnBody s_turns_in) (fnScope s_turns_in) .none kV15 dc15 pm15 an15 cd15 ct15), sl15⟩) (c15 : PySem.W.codeIn K cd15 "turns_in" = true) (k15 : PySem.W.keepIn K (.ref g15) = true)
  (a16 : PySem.W.nsIn K mainGlobals "next_left" = some (some (.ref g16))) (l16 : K.lookup g16 = some ⟨oc16, od16, .func (PySem.W.fnOf "next_left" "next_left" (fnArgs s_next_left) (fnBody s_next_left) (fnScope s_next_left) .none kV16 dc16 pm16 an16 cd16 ct16), sl16⟩) (c16 : PySem.W.codeIn K cd16 "next_left" = true) (k16 : PySem.W.keepIn K (.ref g16) = true)
  (a17 : PySem.W.nsIn K mainGlobals "first_turns" = some (some (.ref g17))) (l17 : K.lookup g17 = some ⟨oc17, od17, .func (PySem.W.fnOf "first_turns" "first_turns" (fnArgs s_first_turns) (fnBody s_first_turns) (fnScope s_first_turns) .none kV17 dc17 pm17 an17 cd17 ct17), sl17⟩) (c17 : PySem.W.codeIn K cd17 "first_turns" = true) (k17 : PySem.W.keepIn K (.ref g17) = true)
  (a18 : PySem.W.nsIn K mainGlobals "_law_take" = some (some (.ref g18))) (l18 : K.lookup g18 = some ⟨oc18, od18, .func (PySem.W.fnOf "_law_take" "_law_take" (fnArgs s__law_take) (fnBody s__law_take) (fnScope s__law_take) .none kV18 dc18 pm18 an18 cd18 ct18), sl18⟩) (c18 : PySem.W.codeIn K cd18 "_law_take" = true) (k18 : PySem.W.keepIn K (.ref g18) = true)
  (a19 : PySem.W.nsIn K mainGlobals "_law_some" = some (some (.ref g19))) (l19 : K.lookup g19 = some ⟨oc19, od19, .func (PySem.W.fnOf "_law_some" "_law_some" (fnArgs s__law_some) (fnBody s__law_some) (fnScope s__law_some) .none kV19 dc19 pm19 an19 cd19 ct19), sl19⟩) (c19 : PySem.W.codeIn K cd19 "_law_some" = true) (k19 : PySem.W.keepIn K (.ref g19) = true)
  (a20 : PySem.W.nsIn K mainGlobals "_law_mixed" = some (some (.ref g20))) (l20 : K.lookup g20 = some ⟨oc20, od20, .func (PySem.W.fnOf "_law_mixed" "_law_mixed" (fnArgs s__law_mixed) (fnBody s__law_mixed) (fnScope s__law_mixed) .none kV20 dc20 pm20 an20 cd20 ct20), sl20⟩) (c20 : PySem.W.codeIn K cd20 "_law_mixed" = true) (k20 : PySem.W.keepIn K (.ref g20) = true)
  (a21 : PySem.W.nsIn K mainGlobals "_law_alike" = some (some (.ref g21))) (l21 : K.lookup g21 = some ⟨oc21, od21, .func (PySem.W.fnOf "_law_alike" "_law_alike" (fnArgs s__law_alike) (fnBody s__law_alike) (fnScope s__law_alike) .none kV21 dc21 pm21 an21 cd21 ct21), sl21⟩) (c21 : PySem.W.codeIn K cd21 "_law_alike" = true) (k21 : PySem.W.keepIn K (.ref g21) = true)
  (a22 : PySem.W.nsIn K mainGlobals "_law_machine" = some (some (.ref g22))) (l22 : K.lookup g22 = some ⟨oc22, od22, .func (PySem.W.fnOf "_law_machine" "_law_machine" (fnArgs s__law_machine) (fnBody s__law_machine) (fnScope s__law_machine) .none kV22 dc22 pm22 an22 cd22 ct22), sl22⟩) (c22 : PySem.W.codeIn K cd22 "_law_machine" = true) (k22 : PySem.W.keepIn K (.ref g22) = true)
  (a23 : PySem.W.nsIn K mainGlobals "_law_moves" = some (some (.ref g23))) (l23 : K.lookup g23 = some ⟨oc23, od23, .func (PySem.W.fnOf "_law_moves" "_law_moves" (fnArgs s__law_moves) (fnBody s__law_moves) (fnScope s__law_moves) .none kV23 dc23 pm23 an23 cd23 ct23), sl23⟩) (c23 : PySem.W.codeIn K cd23 "_law_moves" = true) (k23 : PySem.W.keepIn K (.ref g23) = true)
  (a24 : PySem.W.nsIn K mainGlobals "_law_letters" = some (some (.ref g24))) (l24 : K.lookup g24 = some ⟨oc24, od24, .func (PySem.W.fnOf "_law_letters" "_law_letters" (fnArgs s__law_letters) (fnBody s__law_letters) (fnScope s__law_letters) .none kV24 dc24 pm24 an24 cd24 ct24), sl24⟩) (c24 : PySem.W.codeIn K cd24 "_law_letters" = true) (k24 : PySem.W.keepIn K (.ref g24) = true)
  (a25 : PySem.W.nsIn K mainGlobals "_law_end" = some (some (.ref g25))) (l25 : K.lookup g25 = some ⟨oc25, od25, .func (PySem.W.fnOf "_law_end" "_law_end" (fnArgs s__law_end) (fnBody s__law_end) (fnScope s__law_end) .none kV25 dc25 pm25 an25 cd25 ct25), sl25⟩) (c25 : PySem.W.codeIn K cd25 "_law_end" = true) (k25 : PySem.W.keepIn K (.ref g25) = true)
  (a26 : PySem.W.nsIn K mainGlobals "_law_is_word" = some (some (.ref g26))) (l26 : K.lookup g26 = some ⟨oc26, od26, .func (PySem.W.fnOf "_law_is_word" "_law_is_word" (fnArgs s__law_is_word) (fnBody s__law_is_word) (fnScope s__law_is_word) .none kV26 dc26 pm26 an26 cd26 ct26), sl26⟩) (c26 : PySem.W.codeIn K cd26 "_law_is_word" = true) (k26 : PySem.W.keepIn K (.ref g26) = true)
  (a27 : PySem.W.nsIn K mainGlobals "_law_is_row" = some (some (.ref g27))) (l27 : K.lookup g27 = some ⟨oc27, od27, .func (PySem.W.fnOf "_law_is_row" "_law_is_row" (fnArgs s__law_is_row) (fnBody s__law_is_row) (fnScope s__law_is_row) .none kV27 dc27 pm27 an27 cd27 ct27), sl27⟩) (c27 : PySem.W.codeIn K cd27 "_law_is_row" = true) (k27 : PySem.W.keepIn K (.ref g27) = true)
  (a28 : PySem.W.nsIn K mainGlobals "_law_short_rows" = some (some (.ref g28))) (l28 : K.lookup g28 = some ⟨oc28, od28, .func (PySem.W.fnOf "_law_short_rows" "_law_short_rows" (fnArgs s__law_short_rows) (fnBody s__law_short_rows) (fnScope s__law_short_rows) .none kV28 dc28 pm28 an28 cd28 ct28), sl28⟩) (c28 : PySem.W.codeIn K cd28 "_law_short_rows" = true) (k28 : PySem.W.keepIn K (.ref g28) = true)
  (a29 : PySem.W.nsIn K mainGlobals "_law_ends_along" = some (some (.ref g29))) (l29 : K.lookup g29 = some ⟨oc29, od29, .func (PySem.W.fnOf "_law_ends_along" "_law_ends_along" (fnArgs s__law_ends_along) (fnBody s__law_ends_along) (fnScope s__law_ends_along) .none kV29 dc29 pm29 an29 cd29 ct29), sl29⟩) (c29 : PySem.W.codeIn K cd29 "_law_ends_along" = true) (k29 : PySem.W.keepIn K (.ref g29) = true)
  (a30 : PySem.W.nsIn K mainGlobals "_law_walk" = some (some (.ref g30))) (l30 : K.lookup g30 = some ⟨oc30, od30, .func (PySem.W.fnOf "_law_walk" "_law_walk" (fnArgs s__law_walk) (fnBody s__law_walk) (fnScope s__law_walk) .none kV30 dc30 pm30 an30 cd30 ct30), sl30⟩) (c30 : PySem.W.codeIn K cd30 "_law_walk" = true) (k30 : PySem.W.keepIn K (.ref g30) = true)
  (a31 : PySem.W.nsIn K mainGlobals "_law_first" = some (some (.ref g31))) (l31 : K.lookup g31 = some ⟨oc31, od31, .func (PySem.W.fnOf "_law_first" "_law_first" (fnArgs s__law_first) (fnBody s__law_first) (fnScope s__law_first) .none kV31 dc31 pm31 an31 cd31 ct31), sl31⟩) (c31 : PySem.W.codeIn K cd31 "_law_first" = true) (k31 : PySem.W.keepIn K (.ref g31) = true)
  (a32 : PySem.W.nsIn K mainGlobals "_law_drawn_row" = some (some (.ref g32))) (l32 : K.lookup g32 = some ⟨oc32, od32, .func (PySem.W.fnOf "_law_drawn_row" "_law_drawn_row" (fnArgs s__law_drawn_row) (fnBody s__law_drawn_row) (fnScope s__law_drawn_row) .none kV32 dc32 pm32 an32 cd32 ct32), sl32⟩) (c32 : PySem.W.codeIn K cd32 "_law_drawn_row" = true) (k32 : PySem.W.keepIn K (.ref g32) = true)
  (a33 : PySem.W.nsIn K mainGlobals "_law_caught" = some (some (.ref g33))) (l33 : K.lookup g33 = some ⟨oc33, od33, .func (PySem.W.fnOf "_law_caught" "_law_caught" (fnArgs s__law_caught) (fnBody s__law_caught) (fnScope s__law_caught) .none kV33 dc33 pm33 an33 cd33 ct33), sl33⟩) (c33 : PySem.W.codeIn K cd33 "_law_caught" = true) (k33 : PySem.W.keepIn K (.ref g33) = true)
  (a34 : PySem.W.nsIn K mainGlobals "_law_bag" = some (some (.ref g34))) (l34 : K.lookup g34 = some ⟨oc34, od34, .func (PySem.W.fnOf "_law_bag" "_law_bag" (fnArgs s__law_bag) (fnBody s__law_bag) (fnScope s__law_bag) .none kV34 dc34 pm34 an34 cd34 ct34), sl34⟩) (c34 : PySem.W.codeIn K cd34 "_law_bag" = true) (k34 : PySem.W.keepIn K (.ref g34) = true)
  (a35 : PySem.W.nsIn K mainGlobals "law" = some (some (.ref g35))) (l35 : K.lookup g35 = some ⟨oc35, od35, .func (PySem.W.fnOf "law" "law" (fnArgs s_law) (fnBody s_law) (fnScope s_law) .none kV35 dc35 pm35 an35 (.ref cL35) ct35), sl35⟩) (c35 : PySem.W.codeIn K (.ref cL35) "law" = true) (k35 : PySem.W.keepIn K (.ref g35) = true)
  (qL35 : K.lookup cL35 = some ⟨eL35, dL35, .fields vL35, sL35⟩) (wL35 : vL35[11]? = some (.ref PL35)) (nL35 : K.lookup PL35 = none) (rL35 : ((PyProof.Rows.recsOf q).find? fun e => e.name == ("law" : Str)).isSome = true)
  (zL_beginnings : PySem.W.nsIn K mainGlobals "beginnings" = some none)
  (zL__law_begins : PySem.W.nsIn K mainGlobals "_law_begins" = some none)
  (zL_as_terms : PySem.W.nsIn K mainGlobals "as_terms" = some none)
  (zL__law_terms : PySem.W.nsIn K mainGlobals "_law_terms" = some none)
  (zL__law_word_asked : PySem.W.nsIn K mainGlobals "_law_word_asked" = some none)
  (zL__law_is_summer_right : PySem.W.nsIn K mainGlobals "_law_is_summer_right" = some none)
  (zL_infixes : PySem.W.nsIn K mainGlobals "infixes" = some none)
  (zL__law_are_ratios_right : PySem.W.nsIn K mainGlobals "_law_are_ratios_right" = some none)
  (zL__law_are_slips_right : PySem.W.nsIn K mainGlobals "_law_are_slips_right" = some none)
  (zL__law_is_machine_right : PySem.W.nsIn K mainGlobals "_law_is_machine_right" = some none)
  (zL__law_is_long_right : PySem.W.nsIn K mainGlobals "_law_is_long_right" = some none)
  (zL__law_are_classes_right : PySem.W.nsIn K mainGlobals "_law_are_classes_right" = some none)
  (zL__law_is_text_right : PySem.W.nsIn K mainGlobals "_law_is_text_right" = some none)
  (zL__law_are_judged : PySem.W.nsIn K mainGlobals "_law_are_judged" = some none)
  (gC_Refused : PySem.W.nsIn K mainGlobals "Refused" = some (some (.ref C_Refused)))
  (xL_Refused : K.lookup C_Refused = some (excClassObj nm_Refused q_Refused C_Refused N_Refused bs_Refused bm_Refused true sn_Refused sub_Refused ab_Refused col_Refused dd_Refused m0_Refused m1_Refused m2_Refused m3_Refused m5_Refused "ValueError.__new__"))
  (rv_Refused : PySem.PX.refsVE bm_Refused = true)
  (sa_Refused : PySem.W.findIn K (.ref C_Refused) "__setattr__" = some (some (.builtin "object.__setattr__")))
  (ga_Refused : PySem.W.findIn K (.ref C_Refused) "__getattribute__" = some (some (.builtin "BaseException.__getattribute__")))
  (gg_Refused : PySem.W.findIn K (.ref C_Refused) "__getattr__" = some none)
  (at_why_Refused : PySem.W.findIn K (.ref C_Refused) "why" = some none)
  (iC_Refused : PySem.W.findIn K (.ref C_Refused) "__init__" = some (some (.ref fI_Refused)))
  (tC_Refused : PySem.W.typeIn K (.ref fI_Refused) = some (.type "function"))
  (kC_Refused : PySem.W.keepIn K (.ref C_Refused) = true)
  (exC_Refused : PySem.W.subIn K (.ref C_Refused) (.type "BaseException") = some true)
  (tyC_Refused : PySem.W.typeIn K (.ref C_Refused) = some (.type "type"))
  (hdC_Refused : PySem.W.hasDictIn K C_Refused = true)
  (icl_Refused : PySem.W.isClsIn K C_Refused = true)
  (scc_Refused : PySem.W.subIn K (.ref C_Refused) (.ref C_Refused) = some true)
  (sup_Refused : PySem.W.ks_superIn K C_Refused C_Refused "__init__" = some (some (.builtin "ValueError.__init__")))
  (subV_Refused : PySem.W.subIn K (.ref C_Refused) (.type "ValueError") = some true)
  (subC_Refused : PySem.W.mroIn K C_Refused (.ref C_Refused) = some true)
  (opq_Refused : PySem.W.nsIn K cStatics "thirdparty.any" = some none)
  (gS_Refused : PySem.W.nsIn K mainGlobals "super" = some none)
  (fn_Refused : K.lookup fI_Refused = some ⟨oc_Refused, od_Refused, .func (PySem.W.ksFn "__init__" "Refused.__init__" (L2.defArgs PySem.OwnRefused.sI) (L2.defBody PySem.OwnRefused.sI) (L2.defScope PySem.OwnRefused.sI) .none .none doc_Refused pm_Refused an_Refused (.ref cda_Refused) ct_Refused cc_Refused), osl_Refused⟩)
  (cell_Refused : K.lookup cc_Refused = some ⟨cl_Refused, cld_Refused, .cell (some (.ref C_Refused)), csl_Refused⟩)
  (cod_Refused : K.lookup cda_Refused = some ⟨ccl_Refused, cdd_Refused, .fields vs_Refused, ccs_Refused⟩)
  (v2_Refused : vs_Refused[2]? = some (.str file_Refused tf_Refused))
  (fil_Refused : ((l.prog.main.file : Str) == file_Refused) = true)
  (top_Refused : l.prog.main.scope.names.lookup ("super" : Str) = none)
  (cdi_Refused : PySem.W.codeIn K (.ref cda_Refused) "Refused.__init__" = true)
  (z_abs : PySem.W.nsIn K mainGlobals "abs" = some none)
  (z_all : PySem.W.nsIn K mainGlobals "all" = some none)
  (z_bool : PySem.W.nsIn K mainGlobals "bool" = some none)
  (z_dict : PySem.W.nsIn K mainGlobals "dict" = some none)
  (z_int : PySem.W.nsIn K mainGlobals "int" = some none)
  (z_isinstance : PySem.W.nsIn K mainGlobals "isinstance" = some none)
  (z_len : PySem.W.nsIn K mainGlobals "len" = some none)
  (z_list : PySem.W.nsIn K mainGlobals "list" = some none)
  (z_range : PySem.W.nsIn K mainGlobals "range" = some none)
  (z_set : PySem.W.nsIn K mainGlobals "set" = some none)
  (z_sorted : PySem.W.nsIn K mainGlobals "sorted" = some none)
  (z_str : PySem.W.nsIn K mainGlobals "str" = some none)
  (z_tuple : PySem.W.nsIn K mainGlobals "tuple" = some none)
  (z_zip : PySem.W.nsIn K mainGlobals "zip" = some none)
  (q_MOST_LONG : PySem.W.nsIn K mainGlobals "MOST_LONG" = some (some (.int 400 t_MOST_LONG))) :
  LamX.LawAtS l w K C8.CX0 11 63 "script" mg fa h := by
  have e := hfa.symm.trans (PySem.W.mg_of X G a35)
  cases e
  have T : Txt K mg := ⟨PySem.W.mg_none_of X G z_abs, PySem.W.mg_none_of X G z_all, PySem.W.mg_none_of X G z_bool, PySem.W.mg_none_of X G z_dict, PySem.W.mg_none_of X G z_int, PySem.W.mg_none_of X G z_isinstance, PySem.W.mg_none_of X G z_len, PySem.W.mg_none_of X G z_list, PySem.W.mg_none_of X G z_range, PySem.W.mg_none_of X G z_set, PySem.W.mg_none_of X G z_sorted, PySem.W.mg_none_of X G z_str, PySem.W.mg_none_of X G z_tuple, PySem.W.mg_none_of X G z_zip, ⟨⟨_, PySem.W.mg_of X G q_MOST_LONG, ⟨t_MOST_LONG, rfl⟩⟩, fun _ => .int _⟩⟩
  have tab_law := tab_by a35 l35 rfl qL35 wL35
  have tab_beginnings := tab_no zL_beginnings
  have tab__law_begins := tab_no zL__law_begins
  have tab_as_terms := tab_no zL_as_terms
  have tab__law_terms := tab_no zL__law_terms
  have tab__law_word_asked := tab_no zL__law_word_asked
  have tab__law_is_summer_right := tab_no zL__law_is_summer_right
  have tab_infixes := tab_no zL_infixes
  have tab__law_are_ratios_right := tab_no zL__law_are_ratios_right
  have tab__law_are_slips_right := tab_no zL__law_are_slips_right
  have tab__law_is_machine_right := tab_no zL__law_is_machine_right
  have tab__law_is_long_right := tab_no zL__law_is_long_right
  have tab__law_are_classes_right := tab_no zL__law_are_classes_right
  have tab__law_is_text_right := tab_no zL__law_is_text_right
  have tab__law_are_judged := tab_no zL__law_are_judged
  have hTK : TK K = [(PL35, lamQ "law")] := by
    unfold TK LAMS
    simp only [List.filterMap_cons, List.filterMap_nil, tab_law, tab_beginnings, tab__law_begins, tab_as_terms, tab__law_terms, tab__law_word_asked, tab__law_is_summer_right, tab_infixes, tab__law_are_ratios_right, tab__law_are_slips_right, tab__law_is_machine_right, tab__law_is_long_right, tab__law_are_classes_right, tab__law_is_text_right, tab__law_are_judged, Option.map_some, Option.map_none]
  have F0 : Def K mg "_wall" s__wall g0 _ := ⟨⟨_, _, _, _, _, _, _, _, _, _, rfl, l0, c0⟩, PySem.W.mg_of X G a0, k0⟩
  have b0 := F0.fn.binds rfl (ps := ["k"]) fun _ _ _ _ _ _ us hl => match us, hl with | [_], _ => rfl
  have F1 : Def K mg "names_of" s_names_of g1 _ := ⟨⟨_, _, _, _, _, _, _, _, _, _, rfl, l1, c1⟩, PySem.W.mg_of X G a1, k1⟩
  have b1 := F1.fn.binds rfl (ps := ["machine"]) fun _ _ _ _ _ _ us hl => match us, hl with | [_], _ => rfl
  have F2 : Def K mg "index_of" s_index_of g2 _ := ⟨⟨_, _, _, _, _, _, _, _, _, _, rfl, l2, c2⟩, PySem.W.mg_of X G a2, k2⟩
  have b2 := F2.fn.binds rfl (ps := ["machine", "name"]) fun _ _ _ _ _ _ us hl => match us, hl with | [_, _], _ => rfl
  have F3 : Def K mg "moves_at" s_moves_at g3 _ := ⟨⟨_, _, _, _, _, _, _, _, _, _, rfl, l3, c3⟩, PySem.W.mg_of X G a3, k3⟩
  have b3 := F3.fn.binds rfl (ps := ["machine", "standing"]) fun _ _ _ _ _ _ us hl => match us, hl with | [_, _], _ => rfl
  have F4 : Def K mg "led" s_led g4 _ := ⟨⟨_, _, _, _, _, _, _, _, _, _, rfl, l4, c4⟩, PySem.W.mg_of X G a4, k4⟩
  have b4 := F4.fn.binds rfl (ps := ["machine", "standing", "letter"]) fun _ _ _ _ _ _ us hl => match us, hl with | [_, _, _], _ => rfl
  have F5 : Def K mg "letters_of" s_letters_of g5 _ := ⟨⟨_, _, _, _, _, _, _, _, _, _, rfl, l5, c5⟩, PySem.W.mg_of X G a5, k5⟩
  have b5 := F5.fn.binds rfl (ps := ["machine"]) fun _ _ _ _ _ _ us hl => match us, hl with | [_], _ => rfl
  have F6 : Def K mg "end_by" s_end_by g6 _ := ⟨⟨_, _, _, _, _, _, _, _, _, _, rfl, l6, c6⟩, PySem.W.mg_of X G a6, k6⟩
  have b6 := F6.fn.binds rfl (ps := ["machine", "standing", "word"]) fun _ _ _ _ _ _ us hl => match us, hl with | [_, _, _], _ => rfl
  have F7 : Def K mg "is_word" s_is_word g7 _ := ⟨⟨_, _, _, _, _, _, _, _, _, _, rfl, l7, c7⟩, PySem.W.mg_of X G a7, k7⟩
  have b7 := F7.fn.binds rfl (ps := ["machine", "thing"]) fun _ _ _ _ _ _ us hl => match us, hl with | [_, _], _ => rfl
  have F8 : Def K mg "is_row" s_is_row g8 _ := ⟨⟨_, _, _, _, _, _, _, _, _, _, rfl, l8, c8⟩, PySem.W.mg_of X G a8, k8⟩
  have b8 := F8.fn.binds rfl (ps := ["machine", "thing"]) fun _ _ _ _ _ _ us hl => match us, hl with | [_, _], _ => rfl
  have F9 : Def K mg "check_row" s_check_row g9 _ := ⟨⟨_, _, _, _, _, _, _, _, _, _, rfl, l9, c9⟩, PySem.W.mg_of X G a9, k9⟩
  have b9 := F9.fn.binds rfl (ps := ["machine", "row"]) fun _ _ _ _ _ _ us hl => match us, hl with | [_, _], _ => rfl
  have F10 : Def K mg "standings_along" s_standings_along g10 _ := ⟨⟨_, _, _, _, _, _, _, _, _, _, rfl, l10, c10⟩, PySem.W.mg_of X G a10, k10⟩
  have b10 := F10.fn.binds rfl (ps := ["machine", "row"]) fun _ _ _ _ _ _ us hl => match us, hl with | [_, _], _ => rfl
  have F11 : Def K mg "is_short" s_is_short g11 _ := ⟨⟨_, _, _, _, _, _, _, _, _, _, rfl, l11, c11⟩, PySem.W.mg_of X G a11, k11⟩
  have b11 := F11.fn.binds rfl (ps := ["machine", "thing"]) fun _ _ _ _ _ _ us hl => match us, hl with | [_, _], _ => rfl
  have F12 : Def K mg "short_rows" s_short_rows g12 _ := ⟨⟨_, _, _, _, _, _, _, _, _, _, rfl, l12, c12⟩, PySem.W.mg_of X G a12, k12⟩
  have b12 := F12.fn.binds rfl (ps := ["machine"]) fun _ _ _ _ _ _ us hl => match us, hl with | [_], _ => rfl
  have F13 : Def K mg "walked_out" s_walked_out g13 _ := ⟨⟨_, _, _, _, _, _, _, _, _, _, rfl, l13, c13⟩, PySem.W.mg_of X G a13, k13⟩
  have b13 := F13.fn.binds rfl (ps := ["machine", "row"]) fun _ _ _ _ _ _ us hl => match us, hl with | [_, _], _ => rfl
  have F14 : Def K mg "left_out" s_left_out g14 _ := ⟨⟨_, _, _, _, _, _, _, _, _, _, rfl, l14, c14⟩, PySem.W.mg_of X G a14, k14⟩
  have b14 := F14.fn.binds rfl (ps := ["machine", "row"]) fun _ _ _ _ _ _ us hl => match us, hl with | [_, _], _ => rfl
  have F15 : Def K mg "turns_in" s_turns_in g15 _ := ⟨⟨_, _, _, _, _, _, _, _, _, _, rfl, l15, c15⟩, PySem.W.mg_of X G a15, k15⟩
  have b15 := F15.fn.binds rfl (ps := ["machine", "row"]) fun _ _ _ _ _ _ us hl => match us, hl with | [_, _], _ => rfl
  have F16 : Def K mg "next_left" s_next_left g16 _ := ⟨⟨_, _, _, _, _, _, _, _, _, _, rfl, l16, c16⟩, PySem.W.mg_of X G a16, k16⟩
  have b16 := F16.fn.binds rfl (ps := ["machine", "short", "letter"]) fun _ _ _ _ _ _ us hl => match us, hl with | [_, _, _], _ => rfl
  have F17 : Def K mg "first_turns" s_first_turns g17 _ := ⟨⟨_, _, _, _, _, _, _, _, _, _, rfl, l17, c17⟩, PySem.W.mg_of X G a17, k17⟩
  have b17 := F17.fn.binds rfl (ps := ["machine"]) fun _ _ _ _ _ _ us hl => match us, hl with | [_], _ => rfl
  have F18 : Def K mg "_law_take" s__law_take g18 _ := ⟨⟨_, _, _, _, _, _, _, _, _, _, rfl, l18, c18⟩, PySem.W.mg_of X G a18, k18⟩
  have b18 := F18.fn.binds rfl (ps := ["bag", "many"]) fun _ _ _ _ _ _ us hl => match us, hl with | [_, _], _ => rfl
  have F19 : Def K mg "_law_some" s__law_some g19 _ := ⟨⟨_, _, _, _, _, _, _, _, _, _, rfl, l19, c19⟩, PySem.W.mg_of X G a19, k19⟩
  have b19 := F19.fn.binds rfl (ps := ["bag", "things"]) fun _ _ _ _ _ _ us hl => match us, hl with | [_, _], _ => rfl
  have F20 : Def K mg "_law_mixed" s__law_mixed g20 _ := ⟨⟨_, _, _, _, _, _, _, _, _, _, rfl, l20, c20⟩, PySem.W.mg_of X G a20, k20⟩
  have b20 := F20.fn.binds rfl (ps := ["bag", "things"]) fun _ _ _ _ _ _ us hl => match us, hl with | [_, _], _ => rfl
  have F21 : Def K mg "_law_alike" s__law_alike g21 _ := ⟨⟨_, _, _, _, _, _, _, _, _, _, rfl, l21, c21⟩, PySem.W.mg_of X G a21, k21⟩
  have b21 := F21.fn.binds rfl (ps := ["found", "due"]) fun _ _ _ _ _ _ us hl => match us, hl with | [_, _], _ => rfl
  have F22 : Def K mg "_law_machine" s__law_machine g22 _ := ⟨⟨_, _, _, _, _, _, _, _, _, _, rfl, l22, c22⟩, PySem.W.mg_of X G a22, k22⟩
  have b22 := F22.fn.binds rfl (ps := ["bag"]) fun _ _ _ _ _ _ us hl => match us, hl with | [_], _ => rfl
  have F23 : Def K mg "_law_moves" s__law_moves g23 _ := ⟨⟨_, _, _, _, _, _, _, _, _, _, rfl, l23, c23⟩, PySem.W.mg_of X G a23, k23⟩
  have b23 := F23.fn.binds rfl (ps := ["machine", "standing"]) fun _ _ _ _ _ _ us hl => match us, hl with | [_, _], _ => rfl
  have F24 : Def K mg "_law_letters" s__law_letters g24 _ := ⟨⟨_, _, _, _, _, _, _, _, _, _, rfl, l24, c24⟩, PySem.W.mg_of X G a24, k24⟩
  have b24 := F24.fn.binds rfl (ps := ["machine"]) fun _ _ _ _ _ _ us hl => match us, hl with | [_], _ => rfl
  have F25 : Def K mg "_law_end" s__law_end g25 _ := ⟨⟨_, _, _, _, _, _, _, _, _, _, rfl, l25, c25⟩, PySem.W.mg_of X G a25, k25⟩
  have b25 := F25.fn.binds rfl (ps := ["machine", "standing", "word"]) fun _ _ _ _ _ _ us hl => match us, hl with | [_, _, _], _ => rfl
  have F26 : Def K mg "_law_is_word" s__law_is_word g26 _ := ⟨⟨_, _, _, _, _, _, _, _, _, _, rfl, l26, c26⟩, PySem.W.mg_of X G a26, k26⟩
  have b26 := F26.fn.binds rfl (ps := ["machine", "thing"]) fun _ _ _ _ _ _ us hl => match us, hl with | [_, _], _ => rfl
  have F27 : Def K mg "_law_is_row" s__law_is_row g27 _ := ⟨⟨_, _, _, _, _, _, _, _, _, _, rfl, l27, c27⟩, PySem.W.mg_of X G a27, k27⟩
  have b27 := F27.fn.binds rfl (ps := ["machine", "thing"]) fun _ _ _ _ _ _ us hl => match us, hl with | [_, _], _ => rfl
  have F28 : Def K mg "_law_short_rows" s__law_short_rows g28 _ := ⟨⟨_, _, _, _, _, _, _, _, _, _, rfl, l28, c28⟩, PySem.W.mg_of X G a28, k28⟩
  have b28 := F28.fn.binds rfl (ps := ["machine"]) fun _ _ _ _ _ _ us hl => match us, hl with | [_], _ => rfl
  have F29 : Def K mg "_law_ends_along" s__law_ends_along g29 _ := ⟨⟨_, _, _, _, _, _, _, _, _, _, rfl, l29, c29⟩, PySem.W.mg_of X G a29, k29⟩
  have b29 := F29.fn.binds rfl (ps := ["machine", "row"]) fun _ _ _ _ _ _ us hl => match us, hl with | [_, _], _ => rfl
  have F30 : Def K mg "_law_walk" s__law_walk g30 _ := ⟨⟨_, _, _, _, _, _, _, _, _, _, rfl, l30, c30⟩, PySem.W.mg_of X G a30, k30⟩
  have b30 := F30.fn.binds rfl (ps := ["machine", "row"]) fun _ _ _ _ _ _ us hl => match us, hl with | [_, _], _ => rfl
  have F31 : Def K mg "_law_first" s__law_first g31 _ := ⟨⟨_, _, _, _, _, _, _, _, _, _, rfl, l31, c31⟩, PySem.W.mg_of X G a31, k31⟩
  have b31 := F31.fn.binds rfl (ps := ["machine"]) fun _ _ _ _ _ _ us hl => match us, hl with | [_], _ => rfl
  have F32 : Def K mg "_law_drawn_row" s__law_drawn_row g32 _ := ⟨⟨_, _, _, _, _, _, _, _, _, _, rfl, l32, c32⟩, PySem.W.mg_of X G a32, k32⟩
  have b32 := F32.fn.binds rfl (ps := ["bag", "machine", "many"]) fun _ _ _ _ _ _ us hl => match us, hl with | [_, _, _], _ => rfl
  have F33 : Def K mg "_law_caught" s__law_caught g33 _ := ⟨⟨_, _, _, _, _, _, _, _, _, _, rfl, l33, c33⟩, PySem.W.mg_of X G a33, k33⟩
  have b33 := F33.fn.binds rfl (ps := ["act"]) fun _ _ _ _ _ _ us hl => match us, hl with | [_], _ => rfl
  have F34 : Def K mg "_law_bag" s__law_bag g34 _ := ⟨⟨_, _, _, _, _, _, _, _, _, _, rfl, l34, c34⟩, PySem.W.mg_of X G a34, k34⟩
  have b34 := F34.fn.binds rfl (ps := ["script"]) fun _ _ _ _ _ _ us hl => match us, hl with | [_], _ => rfl
  have X_Refused : PySem.OwnRefused.Txt l.prog K mg C_Refused fI_Refused cc_Refused cda_Refused := { gC := PySem.W.mg_of X G gC_Refused, cls := ⟨_, _, _, _, _, _, _, _, _, _, _, _, _, _, _, xL_Refused, rv_Refused⟩, sa := sa_Refused, ga := ga_Refused, gg := gg_Refused, at_why := at_why_Refused, iC := iC_Refused, tC := tC_Refused, kC := kC_Refused, exC := exC_Refused, tyC := tyC_Refused, hdC := hdC_Refused, te := exm_me exC_Refused icl_Refused tyC_Refused scc_Refused, sup := sup_Refused, subV := subV_Refused, subC := subC_Refused, opq := opq_Refused, gS := PySem.W.mg_none_of X G gS_Refused, cell := ⟨_, _, _, cell_Refused⟩, code := ⟨_, _, _, _, _, _, cod_Refused, v2_Refused, fil_Refused⟩, top := by rw [top_Refused]; rfl, fn := ⟨_, _, _, _, _, _, _, fn_Refused, cdi_Refused⟩ }
  have FL : C8.Fun K "law" "law" s_law _ _ := ⟨_, _, _, _, _, _, _, _, _, _, rfl, l35, c35⟩
  refine ⟨PySem.W.fnOf "law" "law" (fnArgs s_law) (fnBody s_law) (fnScope s_law) .none kV35 dc35 pm35 an35 (.ref cL35) ct35, [(cL35, PL35)], spLawT K, fun p hp => ?_, fun p hp => ?_, fun p hp => ?_, fun s v => .of_eq rfl, fun H a ns hl _ hH hS => ?_, fun base _ _ hTB => ?_⟩
  · simp only [List.mem_cons, List.not_mem_nil, or_false] at hp
    rcases hp with rfl
    exact (tt "law" _ _ rL35 tab_law).2
  · simp only [List.mem_cons, List.not_mem_nil, or_false] at hp
    rcases hp with rfl
    exact nL35
  · simp only [List.mem_cons, List.not_mem_nil, or_false] at hp
    rcases hp with rfl
    exact (tt "law" _ _ rL35 tab_law).1
  · refine ⟨a, ns, rfl, hS, hl, fun p hp => ?_, fun _ => rfl⟩
    rw [hTK] at hp
    simp only [List.mem_cons, List.not_mem_nil, or_false] at hp
    rcases hp with rfl
    exact hH (cL35, PL35) (by simp)
  · skip
    have LK_law : LamK K mg base _ "law" cL35 PL35 := ⟨(rfl : (PySem.W.fnOf "law" "law" (fnArgs s_law) (fnBody s_law) (fnScope s_law) .none kV35 dc35 pm35 an35 (.ref cL35) ct35).code = .ref cL35), hTB (cL35, PL35) (by simp), by rw [hTK]; simp, fun p hp e => by rw [hTK] at hp; simp only [List.mem_cons, List.not_mem_nil, or_false] at hp; subst hp; rfl⟩
    have c__wall := ok__wall (P := l.prog) (w := w) (base := base) F0 b0 T 
    have c_names_of := ok_names_of (P := l.prog) (w := w) (base := base) F1 b1 T 
    have c_index_of := ok_index_of (P := l.prog) (w := w) (base := base) F2 b2 T c_names_of
    have c_moves_at := ok_moves_at (P := l.prog) (w := w) (base := base) F3 b3 T c_index_of
    have c_led := ok_led (P := l.prog) (w := w) (base := base) F4 b4 T c_moves_at
    have c_letters_of := ok_letters_of (P := l.prog) (w := w) (base := base) F5 b5 T 
    have c_end_by := ok_end_by (P := l.prog) (w := w) (base := base) F6 b6 T c_led
    have c_is_word := ok_is_word (P := l.prog) (w := w) (base := base) F7 b7 T c_letters_of
    have c_is_row := ok_is_row (P := l.prog) (w := w) (base := base) F8 b8 T c_is_word c_end_by
    have c_check_row := ok_check_row (P := l.prog) (w := w) (base := base) F9 b9 T c_is_row X_Refused
    have c_standings_along := ok_standings_along (P := l.prog) (w := w) (base := base) F10 b10 T c_check_row c_led
    have c_is_short := ok_is_short (P := l.prog) (w := w) (base := base) F11 b11 T c_is_row c_standings_along
    have c_short_rows := ok_short_rows (P := l.prog) (w := w) (base := base) F12 b12 T c_moves_at
    have c_walked_out := ok_walked_out (P := l.prog) (w := w) (base := base) F13 b13 T c_led
    have c_left_out := ok_left_out (P := l.prog) (w := w) (base := base) F14 b14 T c_check_row c_walked_out
    have c_turns_in := ok_turns_in (P := l.prog) (w := w) (base := base) F15 b15 T c_check_row c_walked_out
    have c_next_left := ok_next_left (P := l.prog) (w := w) (base := base) F16 b16 T c_is_row c_left_out
    have c_first_turns := ok_first_turns (P := l.prog) (w := w) (base := base) F17 b17 T c_short_rows c_standings_along c_moves_at
    have c__law_take := ok__law_take (P := l.prog) (w := w) (base := base) F18 b18 T 
    have c__law_some := ok__law_some (P := l.prog) (w := w) (base := base) F19 b19 T c__law_take
    have c__law_mixed := ok__law_mixed (P := l.prog) (w := w) (base := base) F20 b20 T c__law_take
    have c__law_alike := ok__law_alike (P := l.prog) (w := w) (base := base) F21 b21 T 
    have c__law_machine := ok__law_machine (P := l.prog) (w := w) (base := base) F22 b22 T c__law_take c__law_mixed c__law_some
    have c__law_moves := ok__law_moves (P := l.prog) (w := w) (base := base) F23 b23 T 
    have c__law_letters := ok__law_letters (P := l.prog) (w := w) (base := base) F24 b24 T 
    have c__law_end := ok__law_end (P := l.prog) (w := w) (base := base) F25 b25 T c__law_moves
    have c__law_is_word := ok__law_is_word (P := l.prog) (w := w) (base := base) F26 b26 T c__law_letters
    have c__law_is_row := ok__law_is_row (P := l.prog) (w := w) (base := base) F27 b27 T c__law_is_word c__law_end
    have c__law_short_rows := ok__law_short_rows (P := l.prog) (w := w) (base := base) F28 b28 T c__law_moves
    have c__law_ends_along := ok__law_ends_along (P := l.prog) (w := w) (base := base) F29 b29 T c__law_end
    have c__law_walk := ok__law_walk (P := l.prog) (w := w) (base := base) F30 b30 T c__law_ends_along
    have c__law_first := ok__law_first (P := l.prog) (w := w) (base := base) F31 b31 T c__law_short_rows c__law_ends_along c__law_moves
    have c__law_drawn_row := ok__law_drawn_row (P := l.prog) (w := w) (base := base) F32 b32 T c__law_moves c__law_some
    have c_bag := ok__law_bag (P := l.prog) (w := w) (base := base) F34 b34 T
    exact ok_law FL T c_bag c__law_machine c__law_short_rows c__law_first c_short_rows c_first_turns c__law_alike c__law_take c__law_drawn_row c__law_ends_along c__law_walk c_standings_along c_left_out c_turns_in c__law_end c__law_is_row c_is_short c__law_some c__law_letters c_next_left X_Refused F33 b33 LK_law hm

end DL
open PySem PySem.W PyProof.Rows in
set_option maxRecDepth 100000 in
set_option maxHeartbeats 0 in
theorem PySem.Challenge.cw_stillsums_k12_short_rows_and_what_is_lef_holds : PySem.Challenge.rw_stillsums_k12_short_rows_and_what_is_lef.Holds := by
  w_on; o_law; k_head; (case hw => w_witness2)
  k_fill
  refine DL.walkT (l := PySem.Challenge.rw_stillsums_k12_short_rows_and_what_is_lef) (k := 11) rfl rfl ⟨rfl, by decide, by decide⟩ (fun w h Y => by first | exact PySem.W.kIn_of Y | exact PySem.W.km_in_of Y) ?F
  case F =>
    intro w mg fa h KX G hmg tt
    refine' DL.all_mk KX G hmg tt DL.plain_law ?a0 ?l0 ?c0 ?k0 ?a1 ?l1 ?c1 ?k1 ?a2 ?l2 ?c2 ?k2 ?a3 ?l3 ?c3 ?k3 ?a4 ?l4 ?c4 ?k4 ?a5 ?l5 ?c5 ?k5 ?a6 ?l6 ?c6 ?k6 ?a7 ?l7 ?c7 ?k7 ?a8 ?l8 ?c8 ?k8 ?a9 ?l9 ?c9 ?k9 ?a10 ?l10 ?c10 ?k10 ?a11 ?l11 ?c11 ?k11 ?a12 ?l12 ?c12 ?k12 ?a13 ?l13 ?c13 ?k13 ?a14 ?l14 ?c14 ?k14 ?a15 ?l15 ?c15 ?k15 ?a16 ?l16 ?c16 ?k16 ?a17 ?l17 ?c17 ?k17 ?a18 ?l18 ?c18 ?k18 ?a19 ?l19 ?c19 ?k19 ?a20 ?l20 ?c20 ?k20 ?a21 ?l21 ?c21 ?k21 ?a22 ?l22 ?c22 ?k22 ?a23 ?l23 ?c23 ?k23 ?a24 ?l24 ?c24 ?k24 ?a25 ?l25 ?c25 ?k25 ?a26 ?l26 ?c26 ?k26 ?a27 ?l27 ?c27 ?k27 ?a28 ?l28 ?c28 ?k28 ?a29 ?l29 ?c29 ?k29 ?a30 ?l30 ?c30 ?k30 ?a31 ?l31 ?c31 ?k31 ?a32 ?l32 ?c32 ?k32 ?a33 ?l33 ?c33 ?k33 ?a34 ?l34 ?c34 ?k34 ?a35 ?l35 ?c35 ?k35 ?qL35 ?wL35 ?nL35 ?rL35 ?zL_beginnings ?zL__law_begins ?zL_as_terms ?zL__law_terms ?zL__law_word_asked ?zL__law_is_summer_right ?zL_infixes ?zL__law_are_ratios_right ?zL__law_are_slips_right ?zL__law_is_machine_right ?zL__law_is_long_right ?zL__law_are_classes_right ?zL__law_is_text_right ?zL__law_are_judged ?gC_Refused ?xL_Refused ?rv_Refused ?sa_Refused ?ga_Refused ?gg_Refused ?at_why_Refused ?iC_Refused ?tC_Refused ?kC_Refused ?exC_Refused ?tyC_Refused ?hdC_Refused ?icl_Refused ?scc_Refused ?sup_Refused ?subV_Refused ?subC_Refused ?opq_Refused ?gS_Refused ?fn_Refused ?cell_Refused ?cod_Refused ?v2_Refused ?fil_Refused ?top_Refused ?cdi_Refused ?z_abs ?z_all ?z_bool ?z_dict ?z_int ?z_isinstance ?z_len ?z_list ?z_range ?z_set ?z_sorted ?z_str ?z_tuple ?z_zip ?q_MOST_LONG
    (case a0 => k_is)
    (case l0 => k_is)
    (case c0 => k_is)
    (case k0 => k_is)
    (case a1 => k_is)
    (case l1 => k_is)
    (case c1 => k_is)
    (case k1 => k_is)
    (case a2 => k_is)
    (case l2 => k_is)
    (case c2 => k_is)
    (case k2 => k_is)
    (case a3 => k_is)
    (case l3 => k_is)
    (case c3 => k_is)
    (case k3 => k_is)
    (case a4 => k_is)
    (case l4 => k_is)
    (case c4 => k_is)
    (case k4 => k_is)
    (case a5 => k_is)
    (case l5 => k_is)
    (case c5 => k_is)
    (case k5 => k_is)
    (case a6 => k_is)
    (case l6 => k_is)
    (case c6 => k_is)
    (case k6 => k_is)
    (case a7 => k_is)
    (case l7 => k_is)
    (case c7 => k_is)
    (case k7 => k_is)
    (case a8 => k_is)
    (case l8 => k_is)
    (case c8 => k_is)
    (case k8 => k_is)
    (case a9 => k_is)
    (case l9 => k_is)
    (case c9 => k_is)
    (case k9 => k_is)
    (case a10 => k_is)
    (case l10 => k_is)
    (case c10 => k_is)
    (case k10 => k_is)
    (case a11 => k_is)
    (case l11 => k_is)
    (case c11 => k_is)
    (case k11 => k_is)
    (case a12 => k_is)
    (case l12 => k_is)
    (case c12 => k_is)
    (case k12 => k_is)
    (case a13 => k_is)
    (case l13 => k_is)
    (case c13 => k_is)
    (case k13 => k_is)
    (case a14 => k_is)
    (case l14 => k_is)
    (case c14 => k_is)
    (case k14 => k_is)
    (case a15 => k_is)
    (case l15 => k_is)
    (case c15 => k_is)
    (case k15 => k_is)
    (case a16 => k_is)
    (case l16 => k_is)
    (case c16 => k_is)
    (case k16 => k_is)
    (case a17 => k_is)
    (case l17 => k_is)
    (case c17 => k_is)
    (case k17 => k_is)
    (case a18 => k_is)
    (case l18 => k_is)
    (case c18 => k_is)
    (case k18 => k_is)
    (case a19 => k_is)
    (case l19 => k_is)
    (case c19 => k_is)
    (case k19 => k_is)
    (case a20 => k_is)
    (case l20 => k_is)
    (case c20 => k_is)
    (case k20 => k_is)
    (case a21 => k_is)
    (case l21 => k_is)
    (case c21 => k_is)
    (case k21 => k_is)
    (case a22 => k_is)
    (case l22 => k_is)
    (case c22 => k_is)
    (case k22 => k_is)
    (case a23 => k_is)
    (case l23 => k_is)
    (case c23 => k_is)
    (case k23 => k_is)
    (case a24 => k_is)
    (case l24 => k_is)
    (case c24 => k_is)
    (case k24 => k_is)
    (case a25 => k_is)
    (case l25 => k_is)
    (case c25 => k_is)
    (case k25 => k_is)
    (case a26 => k_is)
    (case l26 => k_is)
    (case c26 => k_is)
    (case k26 => k_is)
    (case a27 => k_is)
    (case l27 => k_is)
    (case c27 => k_is)
    (case k27 => k_is)
    (case a28 => k_is)
    (case l28 => k_is)
    (case c28 => k_is)
    (case k28 => k_is)
    (case a29 => k_is)
    (case l29 => k_is)
    (case c29 => k_is)
    (case k29 => k_is)
    (case a30 => k_is)
    (case l30 => k_is)
    (case c30 => k_is)
    (case k30 => k_is)
    (case a31 => k_is)
    (case l31 => k_is)
    (case c31 => k_is)
    (case k31 => k_is)
    (case a32 => k_is)
    (case l32 => k_is)
    (case c32 => k_is)
    (case k32 => k_is)
    (case a33 => k_is)
    (case l33 => k_is)
    (case c33 => k_is)
    (case k33 => k_is)
    (case a34 => k_is)
    (case l34 => k_is)
    (case c34 => k_is)
    (case k34 => k_is)
    (case a35 => k_is)
    (case l35 => k_is)
    (case c35 => k_is)
    (case k35 => k_is)
    (case qL35 => k_is)
    (case wL35 => first | rfl | decide)
    (case nL35 => first | rfl | kernel_rfl)
    (case rL35 => first | rfl | decide +kernel)
    (case zL_beginnings => k_is)
    (case zL__law_begins => k_is)
    (case zL_as_terms => k_is)
    (case zL__law_terms => k_is)
    (case zL__law_word_asked => k_is)
    (case zL__law_is_summer_right => k_is)
    (case zL_infixes => k_is)
    (case zL__law_are_ratios_right => k_is)
    (case zL__law_are_slips_right => k_is)
    (case zL__law_is_machine_right => k_is)
    (case zL__law_is_long_right => k_is)
    (case zL__law_are_classes_right => k_is)
    (case zL__law_is_text_right => k_is)
    (case zL__law_are_judged => k_is)
    (case gC_Refused => k_is)
    (case xL_Refused => k_is)
    (case rv_Refused => first | rfl | decide +kernel)
    (case sa_Refused => k_is)
    (case ga_Refused => k_is)
    (case gg_Refused => k_is)
    (case at_why_Refused => k_is)
    (case iC_Refused => k_is)
    (case tC_Refused => k_is)
    (case kC_Refused => k_is)
    (case exC_Refused => k_is)
    (case tyC_Refused => k_is)
    (case hdC_Refused => k_is)
    (case icl_Refused => k_is)
    (case scc_Refused => first | rfl | k_is)
    (case sup_Refused => ks_is)
    (case subV_Refused => k_is)
    (case subC_Refused => k_is)
    (case opq_Refused => k_is)
    (case gS_Refused => k_is)
    (case fn_Refused => k_is)
    (case cell_Refused => k_is)
    (case cod_Refused => k_is)
    (case v2_Refused => first | rfl | decide)
    (case fil_Refused => first | rfl | decide +kernel)
    (case top_Refused => first | rfl | decide +kernel)
    (case cdi_Refused => k_is)
    (case z_abs => k_is)
    (case z_all => k_is)
    (case z_bool => k_is)
    (case z_dict => k_is)
    (case z_int => k_is)
    (case z_isinstance => k_is)
    (case z_len => k_is)
    (case z_list => k_is)
    (case z_range => k_is)
    (case z_set => k_is)
    (case z_sorted => k_is)
    (case z_str => k_is)
    (case z_tuple => k_is)
    (case z_zip => k_is)
    (case q_MOST_LONG => k_is)
