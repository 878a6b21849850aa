import PyProof.Rows.All
import Wide.All
import OpenK.AllK
import Wide.FinOn
import HandS.ForMost
import HandS.IsInst
import HandS.TupAny
import HandS.Exc
import HandS.TupMul
import HandS.SortInts
import PyProof.CollectWalk
import PyProof.ListNew
import KE.KDictZip
import HandS.Zip0
import HandS.Zip
import HandS.Codes
import HandS.SetFor
import HandS.Strs
import HandS.Style
import HandS.DictComp
import HandS.More
import HandS.WordsDict
import HandS.Iter
import PySem.Challenge.RW_stillsums_k01_forms_of_any_values
set_option Elab.async false
set_option linter.all false
set_option maxRecDepth 100000
set_option maxHeartbeats 2000000
/-! DL0: data seen through a view G of the tracked heap; a mirror in a small result type; judgements that a piece of syntax does what its mirror says. -/
namespace DL
open PySem L2

abbrev PD := PySem.PyData
abbrev Fg := PySem.W.Frag
abbrev Sub (G H : Hp) : Prop := ∀ a o, G a = some o → H a = some o

/-! ### data -/
mutual
inductive DR (K : Fg) (G : Hp) : V → PD → Prop
  | non : DR K G .non .none
  | bl (b : Bool) : DR K G (.bl b) (.bool b)
  | int (i : Int) : DR K G (.int i) (.int i)
  | str (x : Str) : DR K G (.str x) (.str x)
  | lst {a : Addr} {xs : List V} {ds : List PD} : G a = some (.lst xs) → DRs K G xs ds → DR K G (.ref a) (.list ds)
  | tup {a : Addr} {xs : List V} {ds : List PD} : SqT K G a xs → DRs K G xs ds → DR K G (.ref a) (.tuple ds)
inductive DRs (K : Fg) (G : Hp) : List V → List PD → Prop
  | nil : DRs K G [] []
  | cons {v : V} {vs : List V} {d : PD} {ds : List PD} : DR K G v d → DRs K G vs ds → DRs K G (v :: vs) (d :: ds)
end

theorem subT {K : Fg} {G G' : Hp} {a : Addr} {xs : List V} (e : Sub G G') (h : SqT K G a xs) : SqT K G' a xs := by
  rcases h with (h | ⟨o, h⟩) | h
  · exact .inl (.inl (e _ _ h))
  · exact .inl (.inr ⟨o, e _ _ h⟩)
  · exact .inr h
mutual
theorem DR.mono {K : Fg} {G G' : Hp} (e : Sub G G') : ∀ {v : V} {d : PD}, DR K G v d → DR K G' v d
  | _, _, .non => .non
  | _, _, .bl b => .bl b
  | _, _, .int i => .int i
  | _, _, .str x => .str x
  | _, _, .lst h r => .lst (e _ _ h) (DRs.mono e r)
  | _, _, .tup h r => .tup (subT e h) (DRs.mono e r)
theorem DRs.mono {K : Fg} {G G' : Hp} (e : Sub G G') : ∀ {vs : List V} {ds : List PD}, DRs K G vs ds → DRs K G' vs ds
  | _, _, .nil => .nil
  | _, _, .cons h r => .cons (DR.mono e h) (DRs.mono e r)
end
mutual
theorem DR.dp {K : Fg} {G : Hp} : ∀ {v : V} {d : PD}, DR K G v d → Dp K G v d
  | _, _, .non => .non
  | _, _, .bl b => .bl b
  | _, _, .int i => .int i
  | _, _, .str x => .str x
  | _, _, .lst h r => .lst (SqL.of h) (DRs.dp r)
  | _, _, .tup h r => .tup h (DRs.dp r)
theorem DRs.dp {K : Fg} {G : Hp} : ∀ {vs : List V} {ds : List PD}, DRs K G vs ds → DpAll K G vs ds
  | _, _, .nil => .nil
  | _, _, .cons h r => .cons (DR.dp h) (DRs.dp r)
end
theorem DRs.length {K : Fg} {G : Hp} : ∀ {vs : List V} {ds : List PD}, DRs K G vs ds → vs.length = ds.length
  | _, _, .nil => rfl
  | _, _, .cons _ r => by rw [List.length_cons, List.length_cons, DRs.length r]
theorem DRs.get {K : Fg} {G : Hp} : ∀ {vs : List V} {ds : List PD} {i : Nat} {d : PD}, DRs K G vs ds → ds[i]? = some d → ∃ v, vs[i]? = some v ∧ DR K G v d
  | _, _, _, _, .nil, h => by simp at h
  | _, _, 0, _, .cons (v := v) h r, e => by
    rw [List.getElem?_cons_zero] at e
    cases e
    exact ⟨v, by rw [List.getElem?_cons_zero], h⟩
  | _, _, i + 1, _, .cons h r, e => by
    rw [List.getElem?_cons_succ] at e
    obtain ⟨v, h1, h2⟩ := DRs.get r e
    exact ⟨v, by rw [List.getElem?_cons_succ]; exact h1, h2⟩
theorem DRs.getV {K : Fg} {G : Hp} : ∀ {vs : List V} {ds : List PD} {i : Nat} {v : V}, DRs K G vs ds → vs[i]? = some v → ∃ d, ds[i]? = some d ∧ DR K G v d
  | _, _, _, _, .nil, h => by simp at h
  | _, _, 0, _, .cons (d := d) h r, e => by
    rw [List.getElem?_cons_zero] at e
    cases e
    exact ⟨d, by rw [List.getElem?_cons_zero], h⟩
  | _, _, i + 1, _, .cons h r, e => by
    rw [List.getElem?_cons_succ] at e
    obtain ⟨d, h1, h2⟩ := DRs.getV r e
    exact ⟨d, by rw [List.getElem?_cons_succ]; exact h1, h2⟩
theorem DRs.append {K : Fg} {G : Hp} : ∀ {vs us : List V} {ds es : List PD}, DRs K G vs ds → DRs K G us es → DRs K G (vs ++ us) (ds ++ es)
  | _, _, _, _, .nil, r => r
  | _, _, _, _, .cons h t, r => .cons h (DRs.append t r)
theorem DRs.drop {K : Fg} {G : Hp} : ∀ {vs : List V} {ds : List PD} (n : Nat), DRs K G vs ds → DRs K G (vs.drop n) (ds.drop n)
  | _, _, 0, r => r
  | _, _, _ + 1, .nil => .nil
  | _, _, n + 1, .cons _ r => DRs.drop n r
theorem DRs.take {K : Fg} {G : Hp} : ∀ {vs : List V} {ds : List PD} (n : Nat), DRs K G vs ds → DRs K G (vs.take n) (ds.take n)
  | _, _, 0, _ => .nil
  | _, _, _ + 1, .nil => .nil
  | _, _, n + 1, .cons h r => .cons h (DRs.take n r)
theorem DRs.dropLast {K : Fg} {G : Hp} {vs : List V} {ds : List PD} (r : DRs K G vs ds) : DRs K G vs.dropLast ds.dropLast := by
  rw [List.dropLast_eq_take, List.dropLast_eq_take, r.length]
  exact r.take _
theorem DRs.reverse {K : Fg} {G : Hp} : ∀ {vs : List V} {ds : List PD}, DRs K G vs ds → DRs K G vs.reverse ds.reverse
  | _, _, .nil => .nil
  | _, _, .cons h r => by
    rw [List.reverse_cons, List.reverse_cons]
    exact (DRs.reverse r).append (.cons h .nil)
theorem DRs.set {K : Fg} {G : Hp} {v : V} {d : PD} (q : DR K G v d) : ∀ {vs : List V} {ds : List PD} (i : Nat), DRs K G vs ds → DRs K G (vs.set i v) (ds.set i d)
  | _, _, _, .nil => .nil
  | _, _, 0, .cons _ r => .cons q r
  | _, _, i + 1, .cons h r => .cons h (DRs.set q i r)
theorem DRs.ints {K : Fg} {G : Hp} : ∀ (ns : List Int), DRs K G (ns.map V.int) (ns.map PyData.int)
  | [] => .nil
  | n :: r => .cons (.int n) (DRs.ints r)
theorem DRs.of_ints {K : Fg} {G : Hp} : ∀ {vs : List V} {ns : List Int}, DRs K G vs (ns.map PyData.int) → vs = ns.map V.int
  | _, [], r => by cases r; rfl
  | _, n :: t, r => by
    cases r with
    | cons h q =>
      cases h
      rw [DRs.of_ints q]
      rfl
theorem DRs.of_strs {K : Fg} {G : Hp} : ∀ {vs : List V} {ns : List Str}, DRs K G vs (ns.map PyData.str) → vs = ns.map V.str
  | _, [], r => by cases r; rfl
  | _, n :: t, r => by
    cases r with
    | cons h q =>
      cases h
      rw [DRs.of_strs q]
      rfl
theorem DRs.of_bools {K : Fg} {G : Hp} : ∀ {vs : List V} {ns : List Bool}, DRs K G vs (ns.map PyData.bool) → vs = ns.map V.bl
  | _, [], r => by cases r; rfl
  | _, n :: t, r => by
    cases r with
    | cons h q =>
      cases h
      rw [DRs.of_bools q]
      rfl

/-! ### the bag of draws -/
structure Bag where
  s0 : Nat
  s1 : Nat
  s2 : Nat
  cells : List Nat
/-- where the bag stands, and its cells -/
abbrev Wd := Option (Addr × Addr)
def BagAt (w : Wd) (H : Hp) (B : Bag) : Prop := ∀ b l, w = some (b, l) → H b = some (.lst [.int (B.s0 : Int), .int (B.s1 : Int), .int (B.s2 : Int), .ref l]) ∧ l ≠ b ∧ H l = some (.lst (B.cells.map fun n : Nat => V.int (n : Int)))
/-- not the bag | nor its cells -/
def Nb1 (w : Wd) (a : Addr) : Prop := ∀ b l, w = some (b, l) → b ≠ a
def Nb (w : Wd) (a : Addr) : Prop := ∀ b l, w = some (b, l) → b ≠ a ∧ l ≠ a
theorem Nb.one {w : Wd} {a : Addr} (h : Nb w a) : Nb1 w a := fun b l e => (h b l e).1

/-! ### steps of the heap -/
structure Ok (w : Wd) (G H : Hp) (B : Bag) : Prop where
  sub : Sub G H
  bag : BagAt w H B
  gb : ∀ b l, w = some (b, l) → G b = none
  gl : ∀ b l, w = some (b, l) → G l = some (.lst (B.cells.map fun n : Nat => V.int (n : Int)))
structure Step (w : Wd) (G H G' H' : Hp) : Prop where
  exG : Sub G G'
  fr : ∀ a o, G' a = some o → G a = some o ∨ H a = none
  keep : ∀ a o, Nb1 w a → H a = some o → H' a = some o
  there : ∀ a o, H a = some o → ∃ o', H' a = some o'
section
variable {w : Wd} {G H G' H' G2 H2 : Hp} {B B' : Bag} {p : Addr} {o : HO}
theorem Step.refl : Step w G H G H := ⟨fun _ _ h => h, fun _ _ h => .inl h, fun _ _ _ h => h, fun _ o h => ⟨o, h⟩⟩
theorem Step.trans (a : Step w G H G' H') (b : Step w G' H' G2 H2) : Step w G H G2 H2 := by
  refine ⟨fun c o h => b.exG c o (a.exG c o h), fun c o h => ?_, fun c o hw h => b.keep c o hw (a.keep c o hw h), fun c o h => ?_⟩
  · rcases b.fr c o h with q | q
    · exact a.fr c o q
    · right
      cases e : H c with
      | none => rfl
      | some u =>
        obtain ⟨o', e'⟩ := a.there c u e
        rw [q] at e'; cases e'
  · obtain ⟨o1, e1⟩ := a.there c o h
    exact b.there c o1 e1
theorem new_sub (hs : Sub G H) (hp : H p = none) : Sub G (upd G p o) := fun a u h => by
  have gp : G p = none := by
    cases e : G p with
    | none => rfl
    | some u => rw [hs p u e] at hp; cases hp
  rw [upd_ne (ne_of_none h gp)]; exact h
/-- a new object, kept in the view -/
theorem Step.new (hs : Sub G H) (hp : H p = none) : Step w G H (upd G p o) (upd H p o) := by
  have gp : G p = none := by
    cases e : G p with
    | none => rfl
    | some u => rw [hs p u e] at hp; cases hp
  refine ⟨fun a u h => ?_, fun a u h => ?_, fun a u _ h => ?_, fun a u h => ?_⟩
  · rw [upd_ne (ne_of_none h gp)]; exact h
  · by_cases e : a = p
    · subst e; exact .inr hp
    · rw [upd_ne e] at h; exact .inl h
  · rw [upd_ne (ne_of_none h hp)]; exact h
  · exact ⟨u, by rw [upd_ne (ne_of_none h hp)]; exact h⟩
/-- .. not kept in it -/
theorem Step.newH (hp : H p = none) : Step w G H G (upd H p o) :=
  ⟨fun _ _ h => h, fun _ _ h => .inl h, fun a u _ h => by rw [upd_ne (ne_of_none h hp)]; exact h, fun a u h => ⟨u, by rw [upd_ne (ne_of_none h hp)]; exact h⟩⟩
theorem BagAt.keep (h : BagAt w H B) (k : ∀ a o, H a = some o → H' a = some o) : BagAt w H' B := fun b l e => by
  obtain ⟨h1, h2, h3⟩ := h b l e
  exact ⟨k _ _ h1, h2, k _ _ h3⟩
theorem Ok.nb (h : Ok w G H B) (hp : H p = none) : Nb w p := fun b l e => by
  obtain ⟨h1, _, h3⟩ := h.bag b l e
  exact ⟨ne_of_none h1 hp, ne_of_none h3 hp⟩
/-- an object that is neither the bag's nor in the view changes -/
theorem Ok.mut (h : Ok w G H B) (hg : G p = none) (hb : Nb w p) : Ok w G (upd H p o) B := by
  refine ⟨fun a u q => ?_, fun b l e => ?_, h.gb, h.gl⟩
  · have e : a ≠ p := fun z => by rw [z, hg] at q; cases q
    rw [upd_ne e]; exact h.sub a u q
  · obtain ⟨h1, h2, h3⟩ := h.bag b l e
    obtain ⟨n1, n2⟩ := hb b l e
    exact ⟨by rw [upd_ne n1]; exact h1, h2, by rw [upd_ne n2]; exact h3⟩
theorem Ok.new (h : Ok w G H B) (hp : H p = none) : Ok w (upd G p o) (upd H p o) B := by
  refine ⟨fun a u q => ?_, h.bag.keep fun a u q => by rw [upd_ne (ne_of_none q hp)]; exact q, fun b l e => ?_, fun b l e => ?_⟩
  · by_cases e : a = p
    · subst e; rw [upd_same] at q ⊢; exact q
    · rw [upd_ne e] at q ⊢; exact h.sub a u q
  · obtain ⟨h1, _⟩ := h.bag b l e
    rw [upd_ne (ne_of_none h1 hp)]
    exact h.gb b l e
  · obtain ⟨_, _, h3⟩ := h.bag b l e
    rw [upd_ne (ne_of_none h3 hp)]
    exact h.gl b l e
theorem Ok.newH (h : Ok w G H B) (hp : H p = none) : Ok w G (upd H p o) B :=
  ⟨fun a u q => by rw [upd_ne (ne_of_none (h.sub a u q) hp)]; exact h.sub a u q, h.bag.keep fun a u q => by rw [upd_ne (ne_of_none q hp)]; exact q, h.gb, h.gl⟩
theorem Ok.free (h : Ok w G H B) (hp : H p = none) : G p = none := by
  cases e : G p with
  | none => rfl
  | some u => rw [h.sub p u e] at hp; cases hp
end

/-! ### results -/
inductive Res (α : Type) where
  | ok (a : α) (B : Bag)
  | exc (c : Str) (as : List (Str × PD)) (B : Bag)
  | bad
def Res.bind {α β : Type} (r : Res α) (f : α → Bag → Res β) : Res β := match r with
  | .ok a B => f a B
  | .exc c as B => .exc c as B
  | .bad => .bad
/-- an attribute list of an exception -/
inductive Fs (K : Fg) (G : Hp) : List (Str × V) → List (Str × PD) → Prop
  | nil : Fs K G [] []
  | cons {f : Str} {v : V} {d : PD} {fs : List (Str × V)} {as : List (Str × PD)} : DR K G v d → Fs K G fs as → Fs K G ((f, v) :: fs) ((f, d) :: as)
def ExcP (K : Fg) (mg : Str → Option Value) (w : Wd) (G H : Hp) (c : Str) (as : List (Str × PD)) (B' : Bag) (E : XK) : Prop :=
  ∀ (cls : Value) (dd : Addr) (fs : List (Str × V)) (G' H' : Hp), mg c = some cls → Step w G H G' H' → Ok w G' H' B' → H' dd = some (.xd fs) → Fs K G' fs as → E cls (some dd) H'
/-- what is wanted of a result: R of what comes of it, E of an exception -/
def PostR {α β : Type} (K : Fg) (mg : Str → Option Value) (w : Wd) (G H : Hp) (Rl : Hp → β → α → Prop) (r : Res α) (Q : β → Hp → Prop) (E : XK) : Prop := match r with
  | .ok a B' => ∀ (v : β) (G' H' : Hp), Step w G H G' H' → Ok w G' H' B' → Rl G' v a → Q v H'
  | .exc c as B' => ExcP K mg w G H c as B' E
  | .bad => False
abbrev PostE (K : Fg) (mg : Str → Option Value) (w : Wd) (G H : Hp) (r : Res PD) (Q : VK) (E : XK) : Prop := PostR K mg w G H (fun G' v d => DR K G' v d) r Q E
abbrev PostT (K : Fg) (mg : Str → Option Value) (w : Wd) (G H : Hp) (r : Res Bool) (Q : Bool → Hp → Prop) (E : XK) : Prop := PostR K mg w G H (fun _ c b => c = b) r Q E
/-- the chain of two -/
theorem PostR.step {α β : Type} {K : Fg} {mg : Str → Option Value} {w : Wd} {G H G' H' : Hp} {Rl : Hp → β → α → Prop} {r : Res α} {Q : β → Hp → Prop} {E : XK} (s : Step w G H G' H') (h : PostR K mg w G H Rl r Q E) : PostR K mg w G' H' Rl r Q E := by
  cases r with
  | ok a B => exact fun v G2 H2 s2 o d => h v G2 H2 (s.trans s2) o d
  | exc c as B => exact fun cls dd fs G2 H2 m s2 o d f => h cls dd fs G2 H2 m (s.trans s2) o d f
  | bad => exact h
theorem PostR.bind {α β γ δ : Type} {K : Fg} {mg : Str → Option Value} {w : Wd} {G H : Hp} {Ra : Hp → β → α → Prop} {Rb : Hp → δ → γ → Prop} {r : Res α} {f : α → Bag → Res γ} {Q : δ → Hp → Prop} {Q1 : β → Hp → Prop} {E : XK}
    (h : PostR K mg w G H Rb (r.bind f) Q E) (k : ∀ a B' v G' H', Step w G H G' H' → Ok w G' H' B' → Ra G' v a → PostR K mg w G' H' Rb (f a B') Q E → Q1 v H') : PostR K mg w G H Ra r Q1 E := by
  cases r with
  | ok a B => exact fun v G2 H2 s2 o d => k a B v G2 H2 s2 o d (PostR.step s2 h)
  | exc c as B => exact h
  | bad => exact h

/-! ### what the slots hold -/
inductive SV where
  | d (x : PD)
  | own (xs : List PD)
  | bag
abbrev EnvM := List (Option SV)
def SR (K : Fg) (w : Wd) (H0 G H : Hp) (v : V) : SV → Prop
  | .d x => DR K G v x
  | .own xs => ∃ (p : Addr) (vs : List V), v = .ref p ∧ G p = none ∧ H0 p = none ∧ Nb w p ∧ H p = some (.lst vs) ∧ DRs K G vs xs
  | .bag => ∃ b l, w = some (b, l) ∧ v = .ref b
def SV.isOwn : SV → Bool
  | .own _ => true
  | _ => false
structure Rel (K : Fg) (w : Wd) (G0 H0 : Hp) (σ : L2.St) (env : EnvM) (G H : Hp) (B : Bag) : Prop where
  ok : Ok w G H B
  ent : Step w G0 H0 G H
  len : env.length = σ.length
  slot : ∀ (i : Nat) (sv : SV), env[i]? = some (some sv) → ∃ v, σ[i]? = some (some v) ∧ SR K w H0 G H v sv
  dist : ∀ (i j : Nat) (si sj : SV) (p : Addr), i ≠ j → env[i]? = some (some si) → si.isOwn = true → env[j]? = some (some sj) → sj.isOwn = true → σ[i]? = some (some (.ref p)) → σ[j]? ≠ some (some (.ref p))
section
variable {K : Fg} {w : Wd} {G0 H0 : Hp} {σ : L2.St} {env : EnvM} {G H G' H' : Hp} {B B' : Bag} {v : V} {sv : SV}
theorem SR.step (s : Step w G H G' H') (h : SR K w H0 G H v sv) : SR K w H0 G' H' v sv := by
  cases sv with
  | d x => exact DR.mono s.exG h
  | own xs =>
    obtain ⟨p, vs, e, g, h0, hw, hp, r⟩ := h
    refine ⟨p, vs, e, ?_, h0, hw, s.keep p _ hw.one hp, r.mono s.exG⟩
    cases q : G' p with
    | none => rfl
    | some o =>
      rcases s.fr p o q with z | z
      · rw [g] at z; cases z
      · rw [hp] at z; cases z
  | bag => exact h
theorem Rel.step (R : Rel K w G0 H0 σ env G H B) (s : Step w G H G' H') (o : Ok w G' H' B') : Rel K w G0 H0 σ env G' H' B' :=
  ⟨o, R.ent.trans s, R.len, fun i sv e => let ⟨v, h1, h2⟩ := R.slot i sv e; ⟨v, h1, h2.step s⟩, R.dist⟩
end

/-! ### the judgements -/
structure ED (X : Cx) (W : WX) (e : Expr) (t : TE) (m : EnvM → Bag → Res PD) : Prop where
  pe : PE X e t
  sem : ∀ (w : Wd) (G0 H0 : Hp) (σ : L2.St) (env : EnvM) (G H : Hp) (B : Bag) (Q : VK), Rel X.K w G0 H0 σ env G H B →
    PostE X.K X.mg w G H (m env B) Q (fun c d H' => W c d σ H') → t σ H Q
structure TD (X : Cx) (W : WX) (e : Expr) (t : TT) (m : EnvM → Bag → Res Bool) : Prop where
  pe : PT X e t
  sem : ∀ (w : Wd) (G0 H0 : Hp) (σ : L2.St) (env : EnvM) (G H : Hp) (B : Bag) (Q : Bool → Hp → Prop), Rel X.K w G0 H0 σ env G H B →
    PostT X.K X.mg w G H (m env B) Q (fun c d H' => W c d σ H') → t σ H Q
structure WD (X : Cx) (W : WX) (e : Expr) (t : TT) (m : EnvM → Bag → Res Bool) : Prop where
  pe : PW X e t
  sem : ∀ (w : Wd) (G0 H0 : Hp) (σ : L2.St) (env : EnvM) (G H : Hp) (B : Bag) (Q : Bool → Hp → Prop), Rel X.K w G0 H0 σ env G H B →
    PostT X.K X.mg w G H (m env B) Q (fun c d H' => W c d σ H') → t σ H Q
/-- an argument: data, or the bag -/
def AR (K : Fg) (w : Wd) (G : Hp) (v : V) : SV → Prop
  | .d x => DR K G v x
  | .own _ => False
  | .bag => ∃ b l, w = some (b, l) ∧ v = .ref b
inductive ARs (K : Fg) (w : Wd) (G : Hp) : List V → List SV → Prop
  | nil : ARs K w G [] []
  | cons {v : V} {vs : List V} {s : SV} {ss : List SV} : AR K w G v s → ARs K w G vs ss → ARs K w G (v :: vs) (s :: ss)
theorem AR.mono {K : Fg} {w : Wd} {G G' : Hp} {v : V} {s : SV} (e : Sub G G') (h : AR K w G v s) : AR K w G' v s := by
  cases s with
  | d x => exact DR.mono e h
  | own xs => exact h
  | bag => exact h
theorem ARs.mono {K : Fg} {w : Wd} {G G' : Hp} (e : Sub G G') : ∀ {vs : List V} {ss : List SV}, ARs K w G vs ss → ARs K w G' vs ss
  | _, _, .nil => .nil
  | _, _, .cons h r => .cons (h.mono e) (ARs.mono e r)
/-- an argument's expression -/
structure GD (X : Cx) (W : WX) (e : Expr) (t : TE) (m : EnvM → Bag → Res SV) : Prop where
  pe : PE X e t
  sem : ∀ (w : Wd) (G0 H0 : Hp) (σ : L2.St) (env : EnvM) (G H : Hp) (B : Bag) (Q : VK), Rel X.K w G0 H0 σ env G H B →
    PostR X.K X.mg w G H (fun G' v s => AR X.K w G' v s) (m env B) Q (fun c d H' => W c d σ H') → t σ H Q
structure AD (X : Cx) (W : WX) (es : List Expr) (t : TA) (m : EnvM → Bag → Res (List SV)) : Prop where
  pe : PA X es t
  sem : ∀ (w : Wd) (G0 H0 : Hp) (σ : L2.St) (env : EnvM) (G H : Hp) (B : Bag) (Q : List V → Hp → Prop), Rel X.K w G0 H0 σ env G H B →
    PostR X.K X.mg w G H (fun G' vs ss => ARs X.K w G' vs ss) (m env B) Q (fun c d H' => W c d σ H') → t σ H Q
/-- a statement's result -/
inductive SRes where
  | nx (env : EnvM) (B : Bag)
  | bk (env : EnvM) (B : Bag)
  | ct (env : EnvM) (B : Bag)
  | ret (d : PD) (B : Bag)
  | exc (c : Str) (as : List (Str × PD)) (B : Bag)
  | bad
def PostS (K : Fg) (mg : Str → Option Value) (w : Wd) (G0 H0 G : Hp) (W : WX) (D : Ends) : SRes → Prop
  | .nx env' B' => ∀ (σ' : L2.St) (G' H' : Hp), Rel K w G0 H0 σ' env' G' H' B' → Sub G G' → D.nx σ' H'
  | .bk env' B' => ∀ (σ' : L2.St) (G' H' : Hp), Rel K w G0 H0 σ' env' G' H' B' → Sub G G' → D.bk σ' H'
  | .ct env' B' => ∀ (σ' : L2.St) (G' H' : Hp), Rel K w G0 H0 σ' env' G' H' B' → Sub G G' → D.ct σ' H'
  | .ret d B' => ∀ (v : V) (G' H' : Hp), Step w G0 H0 G' H' → Ok w G' H' B' → DR K G' v d → D.rt v H'
  | .exc c as B' => ∀ σ' : L2.St, ExcP K mg w G0 H0 c as B' (fun cl dd H' => W cl dd σ' H')
  | .bad => False
theorem PostS.sub {K : Fg} {mg : Str → Option Value} {w : Wd} {G0 H0 G G1 : Hp} {W : WX} {D : Ends} {r : SRes} (e : Sub G G1) (h : PostS K mg w G0 H0 G W D r) : PostS K mg w G0 H0 G1 W D r := by
  cases r with
  | nx env B => exact fun σ' G' H' R q => h σ' G' H' R fun a o z => q a o (e a o z)
  | bk env B => exact fun σ' G' H' R q => h σ' G' H' R fun a o z => q a o (e a o z)
  | ct env B => exact fun σ' G' H' R q => h σ' G' H' R fun a o z => q a o (e a o z)
  | ret d B => exact h
  | exc c as B => exact h
  | bad => exact h
structure SD (X : Cx) (W : WX) (st : Stmt) (t : TS) (m : EnvM → Bag → SRes) : Prop where
  pe : PS X st t
  sem : ∀ (w : Wd) (G0 H0 : Hp) (σ : L2.St) (env : EnvM) (G H : Hp) (B : Bag) (D : Ends), Rel X.K w G0 H0 σ env G H B →
    PostS X.K X.mg w G0 H0 G W D (m env B) → t D σ H
structure SDs (X : Cx) (W : WX) (sts : List Stmt) (t : TS) (m : EnvM → Bag → SRes) : Prop where
  pe : PSs X sts t
  sem : ∀ (w : Wd) (G0 H0 : Hp) (σ : L2.St) (env : EnvM) (G H : Hp) (B : Bag) (D : Ends), Rel X.K w G0 H0 σ env G H B →
    PostS X.K X.mg w G0 H0 G W D (m env B) → t D σ H
theorem exc_ent {K : Fg} {mg : Str → Option Value} {w : Wd} {G0 H0 G H : Hp} {c : Str} {as : List (Str × PD)} {B : Bag} {E : XK} (s : Step w G0 H0 G H) (h : ExcP K mg w G0 H0 c as B E) : ExcP K mg w G H c as B E :=
  fun cls dd fs G2 H2 m s2 o d f => h cls dd fs G2 H2 m (s.trans s2) o d f
end DL
set_option Elab.async false
set_option linter.all false
set_option maxRecDepth 100000
set_option maxHeartbeats 2000000
/-! DL1: expressions, tests, arguments. -/
namespace DL
open PySem L2
section
variable {X : Cx} {W : WX}

/-! ### names and constants -/
def mVar (i : Nat) : EnvM → Bag → Res PD := fun env B => match env[i]? with
  | some (some (.d x)) => .ok x B
  | _ => .bad
def mC (d : PD) : EnvM → Bag → Res PD := fun _ B => .ok d B
theorem ed_var (i : Nat) {x : Str} {pos : Pos} (hN : X.N[i]? = some x := by rfl) (hv : Vis X.env.scope x := by first | exact Or.inl rfl | exact Or.inr (Or.inl rfl) | exact Or.inr (Or.inr rfl)) (hd : (x == ("__debug__" : Str)) = false := by decide)
    (hcd : (x == ("__classdict__" : Str)) = false := by decide) : ED X W (.Name x pos) (tVar i) (mVar i) := by
  refine ⟨pe_var hN hv hd hcd, fun w G0 H0 σ env G H B Q R h => ?_⟩
  unfold mVar at h
  cases e : env[i]? with
  | none => rw [e] at h; exact h.elim
  | some o =>
    cases o with
    | none => rw [e] at h; exact h.elim
    | some sv =>
      rw [e] at h
      cases sv with
      | d x =>
        obtain ⟨v, h1, h2⟩ := R.slot i _ e
        exact ⟨v, h1, h v G H Step.refl R.ok h2⟩
      | own xs => exact h.elim
      | bag => exact h.elim
theorem ed_c {e : Expr} {v : V} {d : PD} (h : PE X e (tC v)) (r : ∀ G, DR X.K G v d) : ED X W e (tC v) (mC d) :=
  ⟨h, fun w G0 H0 σ env G H B Q R h => h v G H Step.refl R.ok (r G)⟩
theorem ed_int {i : Int} {j pos} : ED X W (.Constant (.int i) j pos) (tC (.int i)) (mC (.int i)) := ed_c pe_int fun _ => .int i
theorem ed_bl {b : Bool} {j pos} : ED X W (.Constant (.bool b) j pos) (tC (.bl b)) (mC (.bool b)) := ed_c pe_bl fun _ => .bl b
theorem ed_non {j pos} : ED X W (.Constant .none j pos) (tC .non) (mC .none) := ed_c pe_non fun _ => .non
theorem ed_str {x : Str} {j pos} : ED X W (.Constant (.str x) j pos) (tC (.str x)) (mC (.str x)) := ed_c pe_str fun _ => .str x
/-- a constant of the module -/
structure GC (K : Fg) (mg : Str → Option Value) (x : Str) (v : V) (d : PD) : Prop where
  ex : ∃ u : Value, mg x = some u ∧ RelV v u
  dr : ∀ G, DR K G v d
theorem ed_gl {x : Str} {v : V} {d : PD} {pos : Pos} (h : GC X.K X.mg x v d) (hg : Gl X x := by rfl) (hd : (x == ("__debug__" : Str)) = false := by decide) : ED X W (.Name x pos) (tC v) (mC d) := by
  obtain ⟨⟨u, h1, h2⟩, h3⟩ := h
  exact ed_c (pe_glob hg h1 h2 hd) h3

/-! ### operators of two values -/
def OpD (X : Cx) (r : R2) (g : PD → PD → Option PD) : Prop := ∀ (w : Wd) (G H : Hp) (B : Bag) (x y : V) (d e z : PD) (Q : VK), Ok w G H B → DR X.K G x d → DR X.K G y e → g d e = some z →
  (∀ (v : V) (G' H' : Hp), Step w G H G' H' → Ok w G' H' B → DR X.K G' v z → Q v H') → r x y H Q
def OpC (X : Cx) (r : R2) (g : PD → PD → Option Bool) : Prop := ∀ (w : Wd) (G H : Hp) (B : Bag) (x y : V) (d e : PD) (b : Bool) (Q : VK), Ok w G H B → DR X.K G x d → DR X.K G y e → g d e = some b → Q (.bl b) H → r x y H Q
def rOr (r1 r2 : R2) : R2 := fun x y H Q => r1 x y H Q ∨ r2 x y H Q
theorem opR_or {f : Value → Value → Sem Value} {r1 r2 : R2} (h1 : OpR X f r1) (h2 : OpR X f r2) : OpR X f (rOr r1 r2) := by
  intro pins s σ H x y v u Q I rx ry h
  rcases h with h | h
  · exact h1 pins s σ H x y v u Q I rx ry h
  · exact h2 pins s σ H x y v u Q I rx ry h
def gOr {α : Type} (g1 g2 : PD → PD → Option α) : PD → PD → Option α := fun d e => match g1 d e with
  | some z => some z
  | none => g2 d e
theorem opD_or {r1 r2 : R2} {g1 g2 : PD → PD → Option PD} (h1 : OpD X r1 g1) (h2 : OpD X r2 g2) : OpD X (rOr r1 r2) (gOr g1 g2) := by
  intro w G H B x y d e z Q o dx dy hz k
  unfold gOr at hz
  cases q : g1 d e with
  | some z' =>
    rw [q] at hz
    obtain rfl := Option.some.inj hz
    exact .inl (h1 w G H B x y d e _ Q o dx dy q k)
  | none =>
    rw [q] at hz
    exact .inr (h2 w G H B x y d e z Q o dx dy hz k)
theorem opC_or {r1 r2 : R2} {g1 g2 : PD → PD → Option Bool} (h1 : OpC X r1 g1) (h2 : OpC X r2 g2) : OpC X (rOr r1 r2) (gOr g1 g2) := by
  intro w G H B x y d e z Q o dx dy hz k
  unfold gOr at hz
  cases q : g1 d e with
  | some z' =>
    rw [q] at hz
    obtain rfl := Option.some.inj hz
    exact .inl (h1 w G H B x y d e _ Q o dx dy q k)
  | none =>
    rw [q] at hz
    exact .inr (h2 w G H B x y d e z Q o dx dy hz k)
def mOp (g : PD → PD → Option PD) (ma mb : EnvM → Bag → Res PD) : EnvM → Bag → Res PD := fun env B => (ma env B).bind fun x B1 => (mb env B1).bind fun y B2 => match g x y with
  | some z => .ok z B2
  | none => .bad
def mCmp (g : PD → PD → Option Bool) (ma mb : EnvM → Bag → Res PD) : EnvM → Bag → Res Bool := fun env B => (ma env B).bind fun x B1 => (mb env B1).bind fun y B2 => match g x y with
  | some z => .ok z B2
  | none => .bad
def mB (m : EnvM → Bag → Res Bool) : EnvM → Bag → Res PD := fun env B => (m env B).bind fun b B1 => .ok (.bool b) B1
/-- two values in a row -/
theorem two {a b : Expr} {ma mb : EnvM → Bag → Res PD} {ta tb : TE} {w : Wd} {G0 H0 : Hp} {σ : L2.St} {env : EnvM} {G H : Hp} {B : Bag}
    {γ δ : Type} {Rb : Hp → δ → γ → Prop} {f : PD → PD → Bag → Res γ} {Q : δ → Hp → Prop} {k : V → V → Hp → Prop}
    (ra : ∀ (w : Wd) (G0 H0 : Hp) (σ : L2.St) (env : EnvM) (G H : Hp) (B : Bag) (Q : VK), Rel X.K w G0 H0 σ env G H B → PostE X.K X.mg w G H (ma env B) Q (fun c d H' => W c d σ H') → ta σ H Q)
    (rb : ∀ (w : Wd) (G0 H0 : Hp) (σ : L2.St) (env : EnvM) (G H : Hp) (B : Bag) (Q : VK), Rel X.K w G0 H0 σ env G H B → PostE X.K X.mg w G H (mb env B) Q (fun c d H' => W c d σ H') → tb σ H Q)
    (R : Rel X.K w G0 H0 σ env G H B) (h : PostR X.K X.mg w G H Rb ((ma env B).bind fun x B1 => (mb env B1).bind fun y B2 => f x y B2) Q (fun c d H' => W c d σ H'))
    (hk : ∀ x y B2 vx vy G2 H2, Step w G H G2 H2 → Ok w G2 H2 B2 → DR X.K G2 vx x → DR X.K G2 vy y → PostR X.K X.mg w G2 H2 Rb (f x y B2) Q (fun c d H' => W c d σ H') → k vx vy H2) :
    ta σ H fun x H1 => tb σ H1 fun y H2 => k x y H2 := by
  refine ra w G0 H0 σ env G H B _ R (PostR.bind h fun x B1 vx G1 H1 s1 o1 d1 h1 => ?_)
  refine rb w G0 H0 σ env G1 H1 B1 _ (R.step s1 o1) (PostR.bind h1 fun y B2 vy G2 H2 s2 o2 d2 h2 => ?_)
  exact hk x y B2 vx vy G2 H2 (s1.trans s2) o2 (d1.mono s2.exG) d2 h2
theorem ed_op {ta tb : TE} {op : Operator} {r : R2} {g : PD → PD → Option PD} {a b : Expr} {ma mb : EnvM → Bag → Res PD} {pos : Pos} (ho : OpR X (binaryOp op) r) (hd : OpD X r g) (ha : ED X W a ta ma) (hb : ED X W b tb mb) : ED X W (.BinOp a op b pos) (tOp r ta tb) (mOp g ma mb) := by
  obtain ⟨pa, ra⟩ := ha
  obtain ⟨pb, rb⟩ := hb
  refine ⟨pe_op ho pa pb, fun w G0 H0 σ env G H B Q R h => ?_⟩
  refine two (a := a) (b := b) ra rb R h fun x y B2 vx vy G2 H2 s o dx dy h2 => ?_
  cases e : g x y with
  | none => rw [e] at h2; exact h2.elim
  | some z =>
    rw [e] at h2
    exact hd w G2 H2 B2 vx vy x y z Q o dx dy e h2
theorem td_cmp {ta tb : TE} {op : CmpOp} {r : R2} {g : PD → PD → Option Bool} {a b : Expr} {ma mb : EnvM → Bag → Res PD} {pos : Pos} (ho : OpR X (compareOp op) r) (hd : OpC X r g) (ha : ED X W a ta ma) (hb : ED X W b tb mb) (hm : behindInMarks op b = false := by first | exact nomark _ | with_unfolding_all rfl) : TD X W (.Compare a [op] [b] pos) (tTest (tOp r ta tb)) (mCmp g ma mb) := by
  obtain ⟨pa, ra⟩ := ha
  obtain ⟨pb, rb⟩ := hb
  refine ⟨pt_cmpR ho pa pb hm, fun w G0 H0 σ env G H B Q R h => ?_⟩
  refine two (a := a) (b := b) ra rb R h fun x y B2 vx vy G2 H2 s o dx dy h2 => ?_
  cases e : g x y with
  | none => rw [e] at h2; exact h2.elim
  | some z =>
    rw [e] at h2
    exact hd w G2 H2 B2 vx vy x y z _ o dx dy e ⟨z, rfl, h2 z G2 H2 Step.refl o rfl⟩
theorem ed_cmp {ta tb : TE} {op : CmpOp} {r : R2} {g : PD → PD → Option Bool} {a b : Expr} {ma mb : EnvM → Bag → Res PD} {pos : Pos} (ho : OpR X (compareOp op) r) (hd : OpC X r g) (ha : ED X W a ta ma) (hb : ED X W b tb mb) (hm : behindInMarks op b = false := by first | exact nomark _ | with_unfolding_all rfl) : ED X W (.Compare a [op] [b] pos) (tOp r ta tb) (mB (mCmp g ma mb)) := by
  obtain ⟨pa, ra⟩ := ha
  obtain ⟨pb, rb⟩ := hb
  refine ⟨pe_cmpR ho pa pb hm, fun w G0 H0 σ env G H B Q R h => ?_⟩
  have h : PostE X.K X.mg w G H ((ma env B).bind fun x B1 => (mb env B1).bind fun y B2 => match g x y with | some z => .ok (.bool z) B2 | none => .bad) Q (fun c d H' => W c d σ H') := by
    unfold mB mCmp at h
    cases e1 : ma env B with
    | ok x B1 =>
      rw [e1] at h
      simp only [Res.bind] at h ⊢
      cases e2 : mb env B1 with
      | ok y B2 =>
        rw [e2] at h
        simp only [Res.bind] at h ⊢
        cases e3 : g x y with
        | some z => rw [e3] at h; exact h
        | none => rw [e3] at h; exact h
      | exc c as B2 => rw [e2] at h; exact h
      | bad => rw [e2] at h; exact h
    | exc c as B1 => rw [e1] at h; exact h
    | bad => rw [e1] at h; exact h
  refine two (a := a) (b := b) ra rb R h fun x y B2 vx vy G2 H2 s o dx dy h2 => ?_
  cases e : g x y with
  | none => rw [e] at h2; exact h2.elim
  | some z =>
    rw [e] at h2
    exact hd w G2 H2 B2 vx vy x y z _ o dx dy e (h2 (.bl z) G2 H2 Step.refl o (.bl z))
/-- a op b op' c -/
def mChain (g g' : PD → PD → Option Bool) (ma mb mc : EnvM → Bag → Res PD) : EnvM → Bag → Res Bool := fun env B => (ma env B).bind fun x B1 => (mb env B1).bind fun y B2 => match g x y with
  | some true => (mc env B2).bind fun z B3 => match g' y z with
    | some k => .ok k B3
    | none => .bad
  | some false => .ok false B2
  | none => .bad
theorem td_chain {ta tb tc : TE} {op op' : CmpOp} {r r' : R2} {g g' : PD → PD → Option Bool} {a b c : Expr} {ma mb mc : EnvM → Bag → Res PD} {pos : Pos} (ho : OpR X (compareOp op) r) (hd : OpC X r g) (ho' : OpR X (compareOp op') r') (hd' : OpC X r' g')
    (ha : ED X W a ta ma) (hb : ED X W b tb mb) (hc : ED X W c tc mc) (hm : lastMarks [op, op'] [b, c] = false := by with_unfolding_all rfl) : TD X W (.Compare a [op, op'] [b, c] pos) (tTest (tChain r r' ta tb tc)) (mChain g g' ma mb mc) := by
  obtain ⟨pa, ra⟩ := ha
  obtain ⟨pb, rb⟩ := hb
  obtain ⟨pc, rc⟩ := hc
  refine ⟨pt_chain ho ho' pa pb pc hm, fun w G0 H0 σ env G H B Q R h => ?_⟩
  refine two (a := a) (b := b) ra rb R h fun x y B2 vx vy G2 H2 s o dx dy h2 => ?_
  cases e : g x y with
  | none => rw [e] at h2; exact h2.elim
  | some k =>
    rw [e] at h2
    refine hd w G2 H2 B2 vx vy x y k _ o dx dy e ⟨k, rfl, ?_⟩
    cases k with
    | false => exact iteF ⟨false, rfl, h2 false G2 H2 Step.refl o rfl⟩
    | true =>
      refine iteT (rc w G0 H0 σ env G2 H2 B2 _ (R.step s o) (PostR.bind h2 fun z B3 vz G3 H3 s3 o3 d3 h3 => ?_))
      cases e2 : g' y z with
      | none => rw [e2] at h3; exact h3.elim
      | some k' =>
        rw [e2] at h3
        exact hd' w G3 H3 B3 vy vz y z k' _ o3 (dy.mono s3.exG) d3 e2 ⟨k', rfl, h3 k' G3 H3 Step.refl o3 rfl⟩
theorem ed_chain {ta tb tc : TE} {op op' : CmpOp} {r r' : R2} {g g' : PD → PD → Option Bool} {a b c : Expr} {ma mb mc : EnvM → Bag → Res PD} {pos : Pos} (ho : OpR X (compareOp op) r) (hd : OpC X r g) (ho' : OpR X (compareOp op') r') (hd' : OpC X r' g')
    (ha : ED X W a ta ma) (hb : ED X W b tb mb) (hc : ED X W c tc mc) (hm : lastMarks [op, op'] [b, c] = false := by with_unfolding_all rfl) : ED X W (.Compare a [op, op'] [b, c] pos) (tChain r r' ta tb tc) (mB (mChain g g' ma mb mc)) := by
  obtain ⟨pa, ra⟩ := ha
  obtain ⟨pb, rb⟩ := hb
  obtain ⟨pc, rc⟩ := hc
  refine ⟨pe_chain ho ho' pa pb pc hm, fun w G0 H0 σ env G H B Q R h => ?_⟩
  have h : PostE X.K X.mg w G H ((ma env B).bind fun x B1 => (mb env B1).bind fun y B2 => (match g x y with
      | some true => (mc env B2).bind fun z B3 => match g' y z with
        | some k => .ok k B3
        | none => .bad
      | some false => .ok false B2
      | none => .bad : Res Bool).bind fun b B3 => .ok (.bool b) B3) Q (fun c d H' => W c d σ H') := by
    unfold mB mChain at h
    cases e1 : ma env B with
    | ok x B1 =>
      rw [e1] at h
      simp only [Res.bind] at h ⊢
      cases e2 : mb env B1 with
      | ok y B2 =>
        rw [e2] at h
        exact h
      | exc c as B2 => rw [e2] at h; exact h
      | bad => rw [e2] at h; exact h
    | exc c as B1 => rw [e1] at h; exact h
    | bad => rw [e1] at h; exact h
  refine two (a := a) (b := b) ra rb R h fun x y B2 vx vy G2 H2 s o dx dy h2 => ?_
  cases e : g x y with
  | none => rw [e] at h2; exact h2.elim
  | some k =>
    rw [e] at h2
    refine hd w G2 H2 B2 vx vy x y k _ o dx dy e ⟨k, rfl, ?_⟩
    cases k with
    | false => exact iteF (h2 (.bl false) G2 H2 Step.refl o (.bl false))
    | true =>
      have h2 : PostE X.K X.mg w G2 H2 ((mc env B2).bind fun z B3 => (match g' y z with | some k => .ok (.bool k) B3 | none => .bad)) Q (fun c d H' => W c d σ H') := by
        cases e3 : mc env B2 with
        | ok z B3 =>
          simp only [e3, Res.bind] at h2 ⊢
          cases e4 : g' y z with
          | some k => simp only [e4] at h2 ⊢; exact h2
          | none => simp only [e4] at h2 ⊢; exact h2
        | exc c as B3 => simp only [e3, Res.bind] at h2 ⊢; exact h2
        | bad => simp only [e3, Res.bind] at h2 ⊢; exact h2
      refine iteT (rc w G0 H0 σ env G2 H2 B2 _ (R.step s o) (PostR.bind h2 fun z B3 vz G3 H3 s3 o3 d3 h3 => ?_))
      cases e2 : g' y z with
      | none => rw [e2] at h3; exact h3.elim
      | some k' =>
        rw [e2] at h3
        exact hd' w G3 H3 B3 vy vz y z k' _ o3 (dy.mono s3.exG) d3 e2 (h3 (.bl k') G3 H3 Step.refl o3 (.bl k'))

/-! ### tests -/
def tTruth (K : Fg) (ta : TE) : TT := fun σ H Q => ta σ H fun x H' => ∃ k, TruV K x H' k ∧ Q k H'
def mTru (tr : PD → Option Bool) (m : EnvM → Bag → Res PD) : EnvM → Bag → Res Bool := fun env B => (m env B).bind fun x B1 => match tr x with
  | some b => .ok b B1
  | none => .bad
def truP : PD → Option Bool
  | .none => some false
  | .bool b => some b
  | .int i => some (i != 0)
  | .str x => if x.length ≤ sizeLine then some ((x.length : Int) != 0) else none
  | .list ds => some (!ds.isEmpty)
  | .tuple ds => some (!ds.isEmpty)
  | .dict _ => none
theorem isEmpty_drs {K : Fg} {G : Hp} {vs : List V} {ds : List PD} (r : DRs K G vs ds) : (!ds.isEmpty) = !vs.isEmpty := by
  cases r <;> rfl
theorem truV_of {K : Fg} {G H : Hp} {v : V} {d : PD} {b : Bool} (hs : Sub G H) (h : DR K G v d) (e : truP d = some b) : TruV K v H b := by
  cases h with
  | non => cases e; rfl
  | bl b => cases e; rfl
  | int i => cases e; rfl
  | str x =>
    have e : (if x.length ≤ sizeLine then some ((x.length : Int) != 0) else none) = some b := e
    by_cases hx : x.length ≤ sizeLine
    · rw [if_pos hx] at e
      cases e
      exact ⟨hx, rfl⟩
    · rw [if_neg hx] at e; cases e
  | lst ha r =>
    cases e
    exact .inl ⟨_, SqL.of (hs _ _ ha), isEmpty_drs r⟩
  | tup ha r =>
    cases e
    exact .inr (.inl ⟨_, subT hs ha, isEmpty_drs r⟩)
/-- any expression whose test is its value's truth -/
theorem td_tru {t : TE} {e : Expr} {m : EnvM → Bag → Res PD} (h : ED X W e t m) (he : ∀ whole, isTrue e X.env whole = (do let v ← whole; standAt e.pos; holding [v] (truthy v)) := by intro _; rfl) : TD X W e (tTruth X.K t) (mTru truP m) := by
  obtain ⟨p, r⟩ := h
  refine ⟨pt_truth p he, fun w G0 H0 σ env G H B Q R h => ?_⟩
  refine r w G0 H0 σ env G H B _ R (PostR.bind h fun x B1 v G1 H1 s1 o1 d1 h1 => ?_)
  cases e : truP x with
  | none => rw [e] at h1; exact h1.elim
  | some b =>
    rw [e] at h1
    exact ⟨b, truV_of o1.sub d1 e, h1 b G1 H1 Step.refl o1 rfl⟩
def mAnd (a b : EnvM → Bag → Res Bool) : EnvM → Bag → Res Bool := fun env B => (a env B).bind fun k B1 => if k = true then b env B1 else .ok false B1
def mOr (a b : EnvM → Bag → Res Bool) : EnvM → Bag → Res Bool := fun env B => (a env B).bind fun k B1 => if k = true then .ok true B1 else b env B1
def mNot (a : EnvM → Bag → Res Bool) : EnvM → Bag → Res Bool := fun env B => (a env B).bind fun k B1 => .ok (!k) B1
theorem td_not {t : TT} {a : Expr} {m : EnvM → Bag → Res Bool} {pos : Pos} (h : TD X W a t m) : TD X W (.UnaryOp .Not a pos) (tNot t) (mNot m) := by
  obtain ⟨p, r⟩ := h
  refine ⟨pt_not p, fun w G0 H0 σ env G H B Q R h => ?_⟩
  refine r w G0 H0 σ env G H B _ R (PostR.bind h fun x B1 v G1 H1 s1 o1 d1 h1 => ?_)
  subst d1
  exact h1 (!v) G1 H1 Step.refl o1 rfl
theorem wd_and1 {t : TT} {a : Expr} {m : EnvM → Bag → Res Bool} {pos : Pos} (h : TD X W a t m) : WD X W (.BoolOp .And [a] pos) t m := by
  obtain ⟨p, r⟩ := h
  exact ⟨pw_and1 p, r⟩
theorem wd_or1 {t : TT} {a : Expr} {m : EnvM → Bag → Res Bool} {pos : Pos} (h : TD X W a t m) : WD X W (.BoolOp .Or [a] pos) t m := by
  obtain ⟨p, r⟩ := h
  exact ⟨pw_or1 p, r⟩
theorem wd_and {t t2 : TT} {a b : Expr} {rest : List Expr} {ma mb : EnvM → Bag → Res Bool} {pos : Pos} (ha : TD X W a t ma) (hb : WD X W (.BoolOp .And (b :: rest) pos) t2 mb) : WD X W (.BoolOp .And (a :: b :: rest) pos) (tAnd t t2) (mAnd ma mb) := by
  obtain ⟨p, r⟩ := ha
  obtain ⟨p2, r2⟩ := hb
  refine ⟨pw_and p p2, fun w G0 H0 σ env G H B Q R h => ?_⟩
  refine r w G0 H0 σ env G H B _ R (PostR.bind h fun x B1 v G1 H1 s1 o1 d1 h1 => ?_)
  subst d1
  cases v with
  | true => exact iteT (r2 w G0 H0 σ env G1 H1 B1 Q (R.step s1 o1) h1)
  | false => exact iteF (h1 false G1 H1 Step.refl o1 rfl)
theorem wd_or {t t2 : TT} {a b : Expr} {rest : List Expr} {ma mb : EnvM → Bag → Res Bool} {pos : Pos} (ha : TD X W a t ma) (hb : WD X W (.BoolOp .Or (b :: rest) pos) t2 mb) : WD X W (.BoolOp .Or (a :: b :: rest) pos) (tOr t t2) (mOr ma mb) := by
  obtain ⟨p, r⟩ := ha
  obtain ⟨p2, r2⟩ := hb
  refine ⟨pw_or p p2, fun w G0 H0 σ env G H B Q R h => ?_⟩
  refine r w G0 H0 σ env G H B _ R (PostR.bind h fun x B1 v G1 H1 s1 o1 d1 h1 => ?_)
  subst d1
  cases v with
  | false => exact iteF (r2 w G0 H0 σ env G1 H1 B1 Q (R.step s1 o1) h1)
  | true => exact iteT (h1 true G1 H1 Step.refl o1 rfl)
theorem WD.td {t : TT} {e : Expr} {m : EnvM → Bag → Res Bool} (h : WD X W e t m) : TD X W e t m := by
  obtain ⟨p, r⟩ := h
  exact ⟨p.pt, r⟩
/-- and, or, not as values: all but the last are truths -/
def mAndV (a b : EnvM → Bag → Res PD) : EnvM → Bag → Res PD := fun env B => (a env B).bind fun x B1 => match x with
  | .bool true => b env B1
  | .bool false => .ok (.bool false) B1
  | _ => .bad
def mOrV (a b : EnvM → Bag → Res PD) : EnvM → Bag → Res PD := fun env B => (a env B).bind fun x B1 => match x with
  | .bool true => .ok (.bool true) B1
  | .bool false => b env B1
  | _ => .bad
def mNotV (a : EnvM → Bag → Res PD) : EnvM → Bag → Res PD := fun env B => (a env B).bind fun x B1 => match x with
  | .bool k => .ok (.bool (!k)) B1
  | _ => .bad
theorem ed_one {t : TE} {op} {a : Expr} {m : EnvM → Bag → Res PD} {pos : Pos} (h : ED X W a t m) : ED X W (.BoolOp op [a] pos) t m := by
  obtain ⟨p, r⟩ := h
  exact ⟨pe_one p, r⟩
theorem DR.bool_inv {K : Fg} {G : Hp} {v : V} {b : Bool} (h : DR K G v (.bool b)) : v = .bl b := by cases h; rfl
theorem DR.int_inv {K : Fg} {G : Hp} {v : V} {i : Int} (h : DR K G v (.int i)) : v = .int i := by cases h; rfl
theorem DR.str_inv {K : Fg} {G : Hp} {v : V} {x : Str} (h : DR K G v (.str x)) : v = .str x := by cases h; rfl
theorem ed_and {t t2 : TE} {a b : Expr} {rest : List Expr} {ma mb : EnvM → Bag → Res PD} {pos : Pos} (ha : ED X W a t ma) (hb : ED X W (.BoolOp .And (b :: rest) pos) t2 mb) : ED X W (.BoolOp .And (a :: b :: rest) pos) (tAndV t t2) (mAndV ma mb) := by
  obtain ⟨p, r⟩ := ha
  obtain ⟨p2, r2⟩ := hb
  refine ⟨pe_and p p2, fun w G0 H0 σ env G H B Q R h => ?_⟩
  refine r w G0 H0 σ env G H B _ R (PostR.bind h fun x B1 v G1 H1 s1 o1 d1 h1 => ?_)
  cases x with
  | bool k =>
    have e := d1.bool_inv
    refine ⟨k, e, ?_⟩
    cases k with
    | true => exact iteT (r2 w G0 H0 σ env G1 H1 B1 Q (R.step s1 o1) h1)
    | false => exact iteF (h1 (.bl false) G1 H1 Step.refl o1 (.bl false))
  | _ => exact (show False from h1).elim
theorem ed_or {t t2 : TE} {a b : Expr} {rest : List Expr} {ma mb : EnvM → Bag → Res PD} {pos : Pos} (ha : ED X W a t ma) (hb : ED X W (.BoolOp .Or (b :: rest) pos) t2 mb) : ED X W (.BoolOp .Or (a :: b :: rest) pos) (tOrV t t2) (mOrV ma mb) := by
  obtain ⟨p, r⟩ := ha
  obtain ⟨p2, r2⟩ := hb
  refine ⟨pe_or p p2, fun w G0 H0 σ env G H B Q R h => ?_⟩
  refine r w G0 H0 σ env G H B _ R (PostR.bind h fun x B1 v G1 H1 s1 o1 d1 h1 => ?_)
  cases x with
  | bool k =>
    have e := d1.bool_inv
    refine ⟨k, e, ?_⟩
    cases k with
    | false => exact iteF (r2 w G0 H0 σ env G1 H1 B1 Q (R.step s1 o1) h1)
    | true => exact iteT (h1 (.bl true) G1 H1 Step.refl o1 (.bl true))
  | _ => exact (show False from h1).elim
theorem ed_not {t : TE} {a : Expr} {m : EnvM → Bag → Res PD} {pos : Pos} (ha : ED X W a t m) : ED X W (.UnaryOp .Not a pos) (tNotV t) (mNotV m) := by
  obtain ⟨p, r⟩ := ha
  refine ⟨pe_not p, fun w G0 H0 σ env G H B Q R h => ?_⟩
  refine r w G0 H0 σ env G H B _ R (PostR.bind h fun x B1 v G1 H1 s1 o1 d1 h1 => ?_)
  cases x with
  | bool k => exact ⟨k, d1.bool_inv, h1 (.bl (!k)) G1 H1 Step.refl o1 (.bl (!k))⟩
  | _ => exact (show False from h1).elim
/-- a if t else b -/
def mIfE (c : EnvM → Bag → Res Bool) (a b : EnvM → Bag → Res PD) : EnvM → Bag → Res PD := fun env B => (c env B).bind fun k B1 => if k = true then a env B1 else b env B1
theorem ed_if {t : TT} {t1 t2 : TE} {c a b : Expr} {mc : EnvM → Bag → Res Bool} {ma mb : EnvM → Bag → Res PD} {pos : Pos} (hc : TD X W c t mc) (ha : ED X W a t1 ma) (hb : ED X W b t2 mb) : ED X W (.IfExp c a b pos) (tIf t t1 t2) (mIfE mc ma mb) := by
  obtain ⟨p, r⟩ := hc
  obtain ⟨p1, r1⟩ := ha
  obtain ⟨p2, r2⟩ := hb
  refine ⟨pe_ifExp p p1 p2, fun w G0 H0 σ env G H B Q R h => ?_⟩
  refine r w G0 H0 σ env G H B _ R (PostR.bind h fun x B1 v G1 H1 s1 o1 d1 h1 => ?_)
  subst d1
  cases v with
  | true => exact iteT (r1 w G0 H0 σ env G1 H1 B1 Q (R.step s1 o1) h1)
  | false => exact iteF (r2 w G0 H0 σ env G1 H1 B1 Q (R.step s1 o1) h1)

/-! ### arguments -/
def mG (m : EnvM → Bag → Res PD) : EnvM → Bag → Res SV := fun env B => (m env B).bind fun d B1 => .ok (.d d) B1
theorem gd {t : TE} {e : Expr} {m : EnvM → Bag → Res PD} (h : ED X W e t m) : GD X W e t (mG m) := by
  obtain ⟨p, r⟩ := h
  refine ⟨p, fun w G0 H0 σ env G H B Q R h => ?_⟩
  exact r w G0 H0 σ env G H B _ R (PostR.bind h fun x B1 v G1 H1 s1 o1 d1 h1 => h1 v G1 H1 Step.refl o1 d1)
/-- the bag's name -/
def mBag (i : Nat) : EnvM → Bag → Res SV := fun env B => match env[i]? with
  | some (some .bag) => .ok .bag B
  | _ => .bad
theorem gd_bag (i : Nat) {x : Str} {pos : Pos} (hN : X.N[i]? = some x := by rfl) (hv : Vis X.env.scope x := by first | exact Or.inl rfl | exact Or.inr (Or.inl rfl) | exact Or.inr (Or.inr rfl)) (hd : (x == ("__debug__" : Str)) = false := by decide)
    (hcd : (x == ("__classdict__" : Str)) = false := by decide) : GD X W (.Name x pos) (tVar i) (mBag i) := by
  refine ⟨pe_var hN hv hd hcd, fun w G0 H0 σ env G H B Q R h => ?_⟩
  unfold mBag at h
  cases e : env[i]? with
  | none => rw [e] at h; exact h.elim
  | some o =>
    cases o with
    | none => rw [e] at h; exact h.elim
    | some sv =>
      rw [e] at h
      cases sv with
      | d x => exact h.elim
      | own xs => exact h.elim
      | bag =>
        obtain ⟨v, h1, h2⟩ := R.slot i _ e
        exact ⟨v, h1, h v G H Step.refl R.ok h2⟩
def mNil : EnvM → Bag → Res (List SV) := fun _ B => .ok [] B
def mCons (a : EnvM → Bag → Res SV) (r : EnvM → Bag → Res (List SV)) : EnvM → Bag → Res (List SV) := fun env B => (a env B).bind fun x B1 => (r env B1).bind fun xs B2 => .ok (x :: xs) B2
theorem ad_nil : AD X W [] tNil mNil := ⟨pa_nil, fun w G0 H0 σ env G H B Q R h => h [] G H Step.refl R.ok .nil⟩
theorem ad_cons {t : TE} {t2 : TA} {e : Expr} {es : List Expr} {m : EnvM → Bag → Res SV} {mr : EnvM → Bag → Res (List SV)} (he : GD X W e t m) (hr : AD X W es t2 mr) (hs : starEach (e :: es) X.env = (false, eval e X.env) :: starEach es X.env := by rfl) : AD X W (e :: es) (tCons t t2) (mCons m mr) := by
  obtain ⟨p, r⟩ := he
  obtain ⟨p2, r2⟩ := hr
  refine ⟨pa_cons p p2 hs, fun w G0 H0 σ env G H B Q R h => ?_⟩
  refine r w G0 H0 σ env G H B _ R (PostR.bind h fun x B1 v G1 H1 s1 o1 d1 h1 => ?_)
  refine r2 w G0 H0 σ env G1 H1 B1 _ (R.step s1 o1) (PostR.bind h1 fun xs B2 vs G2 H2 s2 o2 d2 h2 => ?_)
  exact h2 (v :: vs) G2 H2 Step.refl o2 (.cons (d1.mono s2.exG) d2)
/-- all of them data -/
def unD : List SV → Option (List PD)
  | [] => some []
  | .d x :: r => (unD r).map (x :: ·)
  | _ :: _ => none
theorem ARs.un {K : Fg} {w : Wd} {G : Hp} : ∀ {vs : List V} {ss : List SV} {ds : List PD}, ARs K w G vs ss → unD ss = some ds → DRs K G vs ds
  | _, _, _, .nil, e => by cases e; exact .nil
  | _, _, ds, .cons (s := .d x) (ss := ss) h r, e => by
    unfold unD at e
    cases q : unD ss with
    | none => rw [q] at e; cases e
    | some es =>
      rw [q] at e
      cases e
      exact .cons h (ARs.un r q)
  | _, _, _, .cons (s := .own xs) h r, e => by cases e
  | _, _, _, .cons (s := .bag) h r, e => by cases e

/-! ### displays -/
def mTup (m : EnvM → Bag → Res (List SV)) : EnvM → Bag → Res PD := fun env B => (m env B).bind fun ss B1 => match unD ss with
  | some ds => if ds.length ≤ sizeLine then .ok (.tuple ds) B1 else .bad
  | none => .bad
def mLst (m : EnvM → Bag → Res (List SV)) : EnvM → Bag → Res PD := fun env B => (m env B).bind fun ss B1 => match unD ss with
  | some ds => if ds.length ≤ sizeLine then .ok (.list ds) B1 else .bad
  | none => .bad
theorem ed_tup {t : TA} {es : List Expr} {m : EnvM → Bag → Res (List SV)} {x1} {pos : Pos} (h : AD X W es t m) : ED X W (.Tuple es x1 pos) (tTup t) (mTup m) := by
  obtain ⟨p, r⟩ := h
  refine ⟨pe_tup p, fun w G0 H0 σ env G H B Q R h => ?_⟩
  refine r w G0 H0 σ env G H B _ R (PostR.bind h fun ss B1 vs G1 H1 s1 o1 d1 h1 => ?_)
  cases e : unD ss with
  | none => rw [e] at h1; exact h1.elim
  | some ds =>
    rw [e] at h1
    have q := d1.un e
    by_cases hl : ds.length ≤ sizeLine
    · simp only [if_pos hl] at h1
      refine ⟨by rw [q.length]; exact hl, fun a ha => h1 (.ref a) _ _ (Step.new o1.sub ha) (o1.new ha) ?_⟩
      exact .tup (SqT.of upd_same) (q.mono (new_sub o1.sub ha))
    · simp only [if_neg hl] at h1
      exact h1.elim
theorem ed_lst {t : TA} {es : List Expr} {m : EnvM → Bag → Res (List SV)} {pos : Pos} (h : AD X W es t m) : ED X W (.List es pos) (tLst t) (mLst m) := by
  obtain ⟨p, r⟩ := h
  refine ⟨pe_lst p, fun w G0 H0 σ env G H B Q R h => ?_⟩
  refine r w G0 H0 σ env G H B _ R (PostR.bind h fun ss B1 vs G1 H1 s1 o1 d1 h1 => ?_)
  cases e : unD ss with
  | none => rw [e] at h1; exact h1.elim
  | some ds =>
    rw [e] at h1
    have q := d1.un e
    by_cases hl : ds.length ≤ sizeLine
    · simp only [if_pos hl] at h1
      refine ⟨by rw [q.length]; exact hl, fun a ha => h1 (.ref a) _ _ (Step.new o1.sub ha) (o1.new ha) ?_⟩
      exact .lst upd_same (q.mono (new_sub o1.sub ha))
    · simp only [if_neg hl] at h1
      exact h1.elim
end
end DL
set_option Elab.async false
set_option linter.all false
set_option maxRecDepth 100000
set_option maxHeartbeats 2000000
/-! DL2: operators, subscripts, slices, built-in calls over data. -/
namespace DL
open PySem L2
section
variable {X : Cx} {W : WX}
theorem subL {K : Fg} {G H : Hp} {a : Addr} {xs : List V} (hs : Sub G H) (h : G a = some (.lst xs)) : SqL K H a xs := SqL.of (hs _ _ h)
/-! ### a + b -/
def addP : PD → PD → Option PD
  | .int i, .int j => some (.int (i + j))
  | .str x, .str y => if x.length + y.length ≤ sizeLine then some (.str (x ++ y)) else none
  | .list xs, .list ys => if xs.length + ys.length ≤ sizeLine then some (.list (xs ++ ys)) else none
  | .tuple xs, .tuple ys => if xs.length + ys.length ≤ sizeLine then some (.tuple (xs ++ ys)) else none
  | _, _ => none
def rAddU (K : Fg) : R2 := rOr (rI0 fun i j => .int (i + j)) (rOr (fun x y H Q => ∃ i j, x = .str i ∧ y = .str j ∧ i.length + j.length ≤ sizeLine ∧ Q (.str (i ++ j)) H) (rOr rCat (rCatA K)))
theorem op_addU : OpR X (binaryOp .Add) (rAddU X.K) := opR_or op_add (opR_or op_add_str (opR_or op_cat op_catA))
theorem some_if {α : Type} {c : Prop} [Decidable c] {a b : α} (h : (if c then some a else none) = some b) : c ∧ a = b := by
  by_cases q : c
  · rw [if_pos q] at h
    exact ⟨q, Option.some.inj h⟩
  · rw [if_neg q] at h; cases h
theorem opD_add : OpD X (rAddU X.K) addP := by
  intro w G H B x y d e z Q o dx dy hz k
  unfold addP at hz
  split at hz
  · cases dx; cases dy; cases hz
    exact .inl ⟨_, _, rfl, rfl, k _ G H Step.refl o (.int _)⟩
  · cases dx; cases dy
    obtain ⟨hl, rfl⟩ := some_if hz
    exact .inr (.inl ⟨_, _, rfl, rfl, hl, k _ G H Step.refl o (.str _)⟩)
  · obtain ⟨hl, rfl⟩ := some_if hz
    cases dx with
    | lst h1 r1 =>
      cases dy with
      | lst h2 r2 =>
        refine .inr (.inr (.inl ⟨_, _, _, _, rfl, rfl, o.sub _ _ h1, o.sub _ _ h2, by rw [r1.length, r2.length]; exact hl, fun p hp => ?_⟩))
        exact k _ _ _ (Step.new o.sub hp) (o.new hp) (.lst upd_same ((r1.append r2).mono (new_sub o.sub hp)))
  · obtain ⟨hl, rfl⟩ := some_if hz
    cases dx with
    | tup h1 r1 =>
      cases dy with
      | tup h2 r2 =>
        refine .inr (.inr (.inr ⟨_, _, _, _, rfl, rfl, subT o.sub h1, subT o.sub h2, by rw [r1.length, r2.length]; exact hl, fun e => ?_, fun e1 e2 => ?_, fun e1 e2 p hp => ?_⟩))
        · subst e
          cases r1
          exact k _ G H Step.refl o (.tup h2 r2)
        · subst e2
          cases r2
          rw [List.append_nil] at k
          exact k _ G H Step.refl o (.tup h1 r1)
        · exact k _ _ _ (Step.new o.sub hp) (o.new hp) (.tup (SqT.of upd_same) ((r1.append r2).mono (new_sub o.sub hp)))
  · cases hz
/-! ### ints -/
def int2 (f : Int → Int → Option PD) : PD → PD → Option PD
  | .int i, .int j => f i j
  | _, _ => none
theorem int2_inv {f : Int → Int → Option PD} {d e z : PD} (h : int2 f d e = some z) : ∃ i j, d = .int i ∧ e = .int j ∧ f i j = some z := by
  unfold int2 at h
  split at h
  · exact ⟨_, _, rfl, rfl, h⟩
  · cases h
def subP : PD → PD → Option PD := int2 fun i j => some (.int (i - j))
def fdivP : PD → PD → Option PD := int2 fun i j => if j ≠ 0 ∧ j.natAbs < 1073741824 then some (.int (i.fdiv j)) else none
def modP : PD → PD → Option PD := int2 fun i j => if j ≠ 0 then some (.int (i.fmod j)) else none
def powP : PD → PD → Option PD := int2 fun i j => if 0 ≤ j ∧ j ≤ 1000000 ∧ i.natAbs < 2 ^ 64 then some (.int (i ^ j.toNat)) else none
theorem opD_sub : OpD X (rI0 fun i j => .int (i - j)) subP := by
  intro w G H B x y d e z Q o dx dy hz k
  obtain ⟨i, j, rfl, rfl, h⟩ := int2_inv hz
  cases dx; cases dy; cases h
  exact ⟨_, _, rfl, rfl, k _ G H Step.refl o (.int _)⟩
theorem opD_fdiv : OpD X (rI CDivN fun i j => .int (i.fdiv j)) fdivP := by
  intro w G H B x y d e z Q o dx dy hz k
  obtain ⟨i, j, rfl, rfl, h⟩ := int2_inv hz
  obtain ⟨hc, rfl⟩ := some_if h
  cases dx; cases dy
  exact ⟨_, _, rfl, rfl, hc, k _ G H Step.refl o (.int _)⟩
theorem opD_mod : OpD X (rI (fun _ j => j ≠ 0) fun i j => .int (i.fmod j)) modP := by
  intro w G H B x y d e z Q o dx dy hz k
  obtain ⟨i, j, rfl, rfl, h⟩ := int2_inv hz
  obtain ⟨hc, rfl⟩ := some_if h
  cases dx; cases dy
  exact ⟨_, _, rfl, rfl, hc, k _ G H Step.refl o (.int _)⟩
theorem opD_pow : OpD X (rI CPow fun i j => .int (i ^ j.toNat)) powP := by
  intro w G H B x y d e z Q o dx dy hz k
  obtain ⟨i, j, rfl, rfl, h⟩ := int2_inv hz
  obtain ⟨hc, rfl⟩ := some_if h
  cases dx; cases dy
  exact ⟨_, _, rfl, rfl, hc, k _ G H Step.refl o (.int _)⟩
/-! ### a * b -/
def mulP : PD → PD → Option PD
  | .int i, .int j => if (-(2 ^ 64) < i ∧ i < 2 ^ 64) ∨ (-(2 ^ 64) < j ∧ j < 2 ^ 64) then some (.int (i * j)) else none
  | .list xs, .int j => if -(2 ^ 63) ≤ j ∧ j < 2 ^ 63 ∧ xs.length * j.toNat ≤ sizeLine then some (.list (List.replicate j.toNat xs).flatten) else none
  | _, _ => none
theorem DRs.rep {K : Fg} {G : Hp} {vs : List V} {ds : List PD} (r : DRs K G vs ds) : ∀ n : Nat, DRs K G (List.replicate n vs).flatten (List.replicate n ds).flatten
  | 0 => .nil
  | n + 1 => by
    rw [List.replicate_succ, List.replicate_succ, List.flatten_cons, List.flatten_cons]
    exact r.append (DRs.rep r n)
theorem opD_mul : OpD X (rOr (rI CMul fun i j => .int (i * j)) rRep) mulP := by
  intro w G H B x y d e z Q o dx dy hz k
  unfold mulP at hz
  split at hz
  · obtain ⟨hc, rfl⟩ := some_if hz
    cases dx; cases dy
    exact .inl ⟨_, _, rfl, rfl, hc, k _ G H Step.refl o (.int _)⟩
  · obtain ⟨⟨h1, h2, h3⟩, rfl⟩ := some_if hz
    cases dy
    cases dx with
    | lst hx rx =>
      refine .inr ⟨_, _, _, rfl, rfl, o.sub _ _ hx, h1, h2, by rw [rx.length]; exact h3, fun p hp => ?_⟩
      exact k _ _ _ (Step.new o.sub hp) (o.new hp) (.lst upd_same ((rx.rep _).mono (new_sub o.sub hp)))
  · cases hz
theorem op_mulU : OpR X (binaryOp .Mult) (rOr (rI CMul fun i j => .int (i * j)) rRep) := opR_or op_mul op_rep
theorem ed_add {a b : Expr} {ta tb : TE} {ma mb : EnvM → Bag → Res PD} {pos : Pos} (ha : ED X W a ta ma) (hb : ED X W b tb mb) : ED X W (.BinOp a .Add b pos) (tOp (rAddU X.K) ta tb) (mOp addP ma mb) := ed_op op_addU opD_add ha hb
theorem ed_sub {a b : Expr} {ta tb : TE} {ma mb : EnvM → Bag → Res PD} {pos : Pos} (ha : ED X W a ta ma) (hb : ED X W b tb mb) : ED X W (.BinOp a .Sub b pos) (tOp (rI0 fun i j => .int (i - j)) ta tb) (mOp subP ma mb) := ed_op op_sub opD_sub ha hb
theorem ed_mul {a b : Expr} {ta tb : TE} {ma mb : EnvM → Bag → Res PD} {pos : Pos} (ha : ED X W a ta ma) (hb : ED X W b tb mb) : ED X W (.BinOp a .Mult b pos) (tOp (rOr (rI CMul fun i j => .int (i * j)) rRep) ta tb) (mOp mulP ma mb) := ed_op op_mulU opD_mul ha hb
theorem ed_fdiv {a b : Expr} {ta tb : TE} {ma mb : EnvM → Bag → Res PD} {pos : Pos} (ha : ED X W a ta ma) (hb : ED X W b tb mb) : ED X W (.BinOp a .FloorDiv b pos) (tOp (rI CDivN fun i j => .int (i.fdiv j)) ta tb) (mOp fdivP ma mb) := ed_op op_fdivN opD_fdiv ha hb
theorem ed_mod {a b : Expr} {ta tb : TE} {ma mb : EnvM → Bag → Res PD} {pos : Pos} (ha : ED X W a ta ma) (hb : ED X W b tb mb) : ED X W (.BinOp a .Mod b pos) (tOp (rI (fun _ j => j ≠ 0) fun i j => .int (i.fmod j)) ta tb) (mOp modP ma mb) := ed_op op_modN opD_mod ha hb
theorem ed_pow {a b : Expr} {ta tb : TE} {ma mb : EnvM → Bag → Res PD} {pos : Pos} (ha : ED X W a ta ma) (hb : ED X W b tb mb) : ED X W (.BinOp a .Pow b pos) (tOp (rI CPow fun i j => .int (i ^ j.toNat)) ta tb) (mOp powP ma mb) := ed_op op_pow opD_pow ha hb
/-- -a -/
def mNeg (m : EnvM → Bag → Res PD) : EnvM → Bag → Res PD := fun env B => (m env B).bind fun x B1 => match x with
  | .int i => .ok (.int (-i)) B1
  | _ => .bad
theorem ed_neg {a : Expr} {t : TE} {m : EnvM → Bag → Res PD} {pos : Pos} (h : ED X W a t m) : ED X W (.UnaryOp .USub a pos) (tUn (rU fun i => .int (-i)) t) (mNeg m) := by
  obtain ⟨p, r⟩ := h
  refine ⟨pe_un un_neg p, fun w G0 H0 σ env G H B Q R h => ?_⟩
  refine r w G0 H0 σ env G H B _ R (PostR.bind h fun x B1 v G1 H1 s1 o1 d1 h1 => ?_)
  cases x with
  | int i => exact ⟨i, d1.int_inv, h1 (.int (-i)) G1 H1 Step.refl o1 (.int (-i))⟩
  | _ => exact (show False from h1).elim

/-! ### comparisons -/
def cmpI (f : Int → Int → Bool) : PD → PD → Option Bool
  | .int i, .int j => some (f i j)
  | _, _ => none
theorem opC_int {f : Int → Int → Bool} : OpC X (rI0 fun i j => .bl (f i j)) (cmpI f) := by
  intro w G H B x y d e b Q o dx dy hz k
  unfold cmpI at hz
  split at hz
  · cases dx; cases dy; cases hz
    exact ⟨_, _, rfl, rfl, k⟩
  · cases hz
abbrev ltP := cmpI fun i j => decide (i < j)
abbrev leP := cmpI fun i j => decide (i ≤ j)
abbrev gtP := cmpI fun i j => decide (j < i)
abbrev geP := cmpI fun i j => decide (j ≤ i)
def eqP (d e : PD) : Option Bool := if SeqAt.shaped d = true ∧ SeqAt.shaped e = true then some (PyData.eqv d e) else none
def neP (d e : PD) : Option Bool := if SeqAt.shaped d = true ∧ SeqAt.shaped e = true then some (!PyData.eqv d e) else none
theorem opC_eq : OpC X (rEqD X.K) eqP := by
  intro w G H B x y d e b Q o dx dy hz k
  obtain ⟨⟨h1, h2⟩, rfl⟩ := some_if hz
  exact ⟨d, e, (dx.mono o.sub).dp, (dy.mono o.sub).dp, h1, h2, k⟩
theorem opC_ne : OpC X (rNeD X.K) neP := by
  intro w G H B x y d e b Q o dx dy hz k
  obtain ⟨⟨h1, h2⟩, rfl⟩ := some_if hz
  exact ⟨d, e, (dx.mono o.sub).dp, (dy.mono o.sub).dp, h1, h2, k⟩
/-! ### in -/
def flatP : PD → Bool
  | .none => true
  | .bool _ => true
  | .int _ => true
  | .str _ => true
  | _ => false
def inP : PD → PD → Option Bool
  | .str x, .str z => if x.cps.size = 1 then some (decide (x.cps.getD 0 0 ∈ z.cps.toList)) else none
  | d, .list es => if flatP d = true ∧ es.all flatP = true then some (es.any fun e => PyData.eqv e d) else none
  | d, .tuple es => if flatP d = true ∧ es.all flatP = true then some (es.any fun e => PyData.eqv e d) else none
  | _, _ => none
def ninP (d e : PD) : Option Bool := (inP d e).map (!·)
theorem flat_of {K : Fg} {G : Hp} {v : V} {d : PD} (h : DR K G v d) (f : flatP d = true) : flatV v = true := by
  cases h <;> first | rfl | exact absurd f Bool.false_ne_true
theorem flats_of {K : Fg} {G : Hp} : ∀ {vs : List V} {ds : List PD}, DRs K G vs ds → ds.all flatP = true → vs.all flatV = true
  | _, _, .nil, _ => rfl
  | _, _, .cons h r, f => by
    rw [List.all_cons, Bool.and_eq_true] at f ⊢
    exact ⟨flat_of h f.1, flats_of r f.2⟩
theorem eqV_of {K : Fg} {G : Hp} {v u : V} {d e : PD} (h : DR K G v d) (h2 : DR K G u e) (f : flatP d = true) (f2 : flatP e = true) : eqV v u = PyData.eqv d e := by
  (cases h <;> cases h2) <;> first | rfl | exact absurd f Bool.false_ne_true | exact absurd f2 Bool.false_ne_true
theorem any_of {K : Fg} {G : Hp} {u : V} {d : PD} (h2 : DR K G u d) (f2 : flatP d = true) : ∀ {vs : List V} {ds : List PD}, DRs K G vs ds → ds.all flatP = true → inV u vs = ds.any fun e => PyData.eqv e d
  | _, _, .nil, _ => rfl
  | _, _, .cons h r, f => by
    rw [List.all_cons, Bool.and_eq_true] at f
    have ih := any_of h2 f2 r f.2
    unfold inV at ih ⊢
    rw [List.any_cons, List.any_cons, eqV_of h h2 f.1 f2, ih]
def rInS (neg : Bool) : R2 := fun x y H Q => ∃ (c : Nat) (z : Str), x = .str ⟨#[c]⟩ ∧ y = .str z ∧ Q (.bl (if neg = true then !decide (c ∈ z.cps.toList) else decide (c ∈ z.cps.toList))) H
theorem op_inU : OpR X (compareOp .In) (rOr (rIn X.K false) (rInS false)) := opR_or op_in_seq op_in_sign
theorem op_ninU : OpR X (compareOp .NotIn) (rOr (rIn X.K true) (rInS true)) := opR_or op_notIn_seq op_notIn_sign
theorem str_one {x : Str} (h : x.cps.size = 1) : x = ⟨#[x.cps.getD 0 0]⟩ := by
  obtain ⟨⟨l⟩⟩ := x
  match l, h with
  | [c], _ => rfl
theorem in_both {neg : Bool} {w : Wd} {G H : Hp} {B : Bag} {x y : V} {d e : PD} {b : Bool} {Q : VK} (o : Ok w G H B) (dx : DR X.K G x d) (dy : DR X.K G y e) (hz : inP d e = some b) (k : Q (.bl (if neg = true then !b else b)) H) : rOr (rIn X.K neg) (rInS neg) x y H Q := by
  unfold inP at hz
  split at hz
  · obtain ⟨h1, rfl⟩ := some_if hz
    cases dx; cases dy
    rename_i x z
    exact .inr ⟨x.cps.getD 0 0, z, by rw [← str_one h1], rfl, k⟩
  · obtain ⟨⟨f1, f2⟩, rfl⟩ := some_if hz
    cases dy with
    | lst hy r =>
      refine .inl ⟨_, _, rfl, .inl (subL o.sub hy), flat_of dx f1, flats_of r f2, ?_⟩
      rw [any_of dx f1 r f2]
      exact k
  · obtain ⟨⟨f1, f2⟩, rfl⟩ := some_if hz
    cases dy with
    | tup hy r =>
      refine .inl ⟨_, _, rfl, .inr (subT o.sub hy), flat_of dx f1, flats_of r f2, ?_⟩
      rw [any_of dx f1 r f2]
      exact k
  · cases hz
theorem opC_in : OpC X (rOr (rIn X.K false) (rInS false)) inP := fun w G H B x y d e b Q o dx dy hz k => in_both o dx dy hz k
theorem opC_nin : OpC X (rOr (rIn X.K true) (rInS true)) ninP := by
  intro w G H B x y d e b Q o dx dy hz k
  unfold ninP at hz
  cases q : inP d e with
  | none => rw [q] at hz; cases hz
  | some c =>
    rw [q] at hz
    have hz : some (!c) = some b := hz
    cases hz
    exact in_both (neg := true) o dx dy q k
/-! ### is None -/
def isNo : PD → Bool
  | .none => true
  | _ => false
def isNoneP : PD → PD → Option Bool
  | d, .none => some (isNo d)
  | _, _ => none
def notNoneP (d e : PD) : Option Bool := (isNoneP d e).map (!·)
theorem none_of {K : Fg} {G : Hp} {v : V} {d : PD} (h : DR K G v d) : decide (v = .non) = isNo d := by
  cases h <;> rfl
theorem opC_is : OpC X (fun x y H Q => y = .non ∧ Q (.bl (decide (x = .non))) H) isNoneP := by
  intro w G H B x y d e b Q o dx dy hz k
  cases e with
  | none =>
    cases dy
    cases hz
    exact ⟨rfl, by rw [none_of dx]; exact k⟩
  | _ => cases hz
theorem opC_isnot : OpC X (fun x y H Q => y = .non ∧ Q (.bl (!decide (x = .non))) H) notNoneP := by
  intro w G H B x y d e b Q o dx dy hz k
  cases e with
  | none =>
    cases dy
    cases hz
    exact ⟨rfl, by rw [none_of dx]; exact k⟩
  | _ => cases hz

/-! ### subscripts, slices -/
def ixP : PD → PD → Option PD
  | .list xs, .int i => atI xs i
  | .tuple xs, .int i => atI xs i
  | .str z, .int i => if z.length ≤ sizeLine then (atI z.cps.toList i).map fun c => .str ⟨#[c]⟩ else none
  | _, _ => none
theorem atI_of {K : Fg} {G : Hp} {vs : List V} {ds : List PD} {i : Int} {d : PD} (r : DRs K G vs ds) (h : atI ds i = some d) : ∃ v, atI vs i = some v ∧ DR K G v d := by
  unfold atI at h ⊢
  rw [r.length]
  cases e : ixN ds.length i with
  | none => rw [e] at h; cases h
  | some j =>
    rw [e] at h
    obtain ⟨v, h1, h2⟩ := r.get (show ds[j]? = some d from h)
    exact ⟨v, h1, h2⟩
theorem opD_ix : OpD X (rIx X.K) ixP := by
  intro w G H B x y d e z Q o dx dy hz k
  unfold ixP at hz
  split at hz
  · cases dy
    cases dx with
    | lst hx r =>
      obtain ⟨v, h1, h2⟩ := atI_of r hz
      exact .inl ⟨_, _, _, v, rfl, rfl, subL o.sub hx, h1, k v G H Step.refl o h2⟩
  · cases dy
    cases dx with
    | tup hx r =>
      obtain ⟨v, h1, h2⟩ := atI_of r hz
      exact .inr (.inl ⟨_, _, _, v, rfl, rfl, subT o.sub hx, h1, k v G H Step.refl o h2⟩)
  · cases dy; cases dx
    rename_i z i
    by_cases hl : z.length ≤ sizeLine
    · rw [if_pos hl] at hz
      cases q : atI z.cps.toList i with
      | none => rw [q] at hz; cases hz
      | some c =>
        rw [q] at hz
        cases hz
        exact .inr (.inr ⟨z, i, c, rfl, rfl, hl, q, k _ G H Step.refl o (.str _)⟩)
    · rw [if_neg hl] at hz; cases hz
  · cases hz
theorem ed_ix {a b : Expr} {ta tb : TE} {ma mb : EnvM → Bag → Res PD} {pos : Pos} (ha : ED X W a ta ma) (hb : ED X W b tb mb) (hs : PlainIx b := by exact fun _ _ => rfl) : ED X W (.Subscript a b pos) (tOp (rIx X.K) ta tb) (mOp ixP ma mb) := by
  obtain ⟨pa, ra⟩ := ha
  obtain ⟨pb, rb⟩ := hb
  refine ⟨pe_ix ix_seq pa pb hs, fun w G0 H0 σ env G H B Q R h => ?_⟩
  refine two (a := a) (b := b) ra rb R h fun x y B2 vx vy G2 H2 s o dx dy h2 => ?_
  cases e : ixP x y with
  | none => rw [e] at h2; exact h2.elim
  | some z =>
    rw [e] at h2
    exact opD_ix w G2 H2 B2 vx vy x y z Q o dx dy e h2
/-- a part of a slice -/
structure OD (X : Cx) (W : WX) (e : Option Expr) (t : TO) (m : EnvM → Bag → Res (Option Int)) : Prop where
  pe : PO X e t
  sem : ∀ (w : Wd) (G0 H0 : Hp) (σ : L2.St) (env : EnvM) (G H : Hp) (B : Bag) (Q : Option Int → Hp → Prop), Rel X.K w G0 H0 σ env G H B →
    PostR X.K X.mg w G H (fun _ i j => i = j) (m env B) Q (fun c d H' => W c d σ H') → t σ H Q
def mNoPart : EnvM → Bag → Res (Option Int) := fun _ B => .ok none B
def mPart (m : EnvM → Bag → Res PD) : EnvM → Bag → Res (Option Int) := fun env B => (m env B).bind fun x B1 => match x with
  | .int i => .ok (some i) B1
  | _ => .bad
theorem od_none : OD X W none tNoPart mNoPart := ⟨po_none, fun w G0 H0 σ env G H B Q R h => h none G H Step.refl R.ok rfl⟩
theorem od_some {e : Expr} {t : TE} {m : EnvM → Bag → Res PD} (h : ED X W e t m) : OD X W (some e) (tPart t) (mPart m) := by
  obtain ⟨p, r⟩ := h
  refine ⟨po_some p, fun w G0 H0 σ env G H B Q R h => ?_⟩
  refine r w G0 H0 σ env G H B _ R (PostR.bind h fun x B1 v G1 H1 s1 o1 d1 h1 => ?_)
  cases x with
  | int i => exact ⟨i, d1.int_inv, h1 (some i) G1 H1 Step.refl o1 rfl⟩
  | _ => exact (show False from h1).elim
def cutP {α : Type} (xs : List α) (lo hi : Option Int) : List α := (xs.drop (HT.sIx xs.length 0 lo)).take (HT.sIx xs.length xs.length hi - HT.sIx xs.length 0 lo)
def sliceP (d : PD) (lo hi : Option Int) : Option PD := match d with
  | .list xs => some (.list (cutP xs lo hi))
  | .tuple xs => some (.tuple (cutP xs lo hi))
  | .str z => if z.length ≤ sizeLine then some (.str (cutS z lo hi)) else none
  | _ => none
theorem DRs.cut {K : Fg} {G : Hp} {vs : List V} {ds : List PD} (lo hi : Option Int) (r : DRs K G vs ds) : DRs K G (cutV vs lo hi) (cutP ds lo hi) := by
  unfold cutV cutP
  rw [r.length]
  exact (r.drop _).take _
def rSlU (K : Fg) : V → Option Int → Option Int → Hp → VK → Prop := fun x lo hi H Q => rSlL K x lo hi H Q ∨ (fun x lo hi H Q => rSlA K x lo hi H Q ∨ rSlS x lo hi H Q) x lo hi H Q
theorem sl_U : SlR X (rSlU X.K) := sl_list.or (sl_tupA.or sl_str)
def mSl (ma : EnvM → Bag → Res PD) (ml mh : EnvM → Bag → Res (Option Int)) : EnvM → Bag → Res PD := fun env B => (ma env B).bind fun x B1 => (ml env B1).bind fun lo B2 => (mh env B2).bind fun hi B3 => match sliceP x lo hi with
  | some z => .ok z B3
  | none => .bad
theorem ed_slice {e : Expr} {lo hi : Option Expr} {t : TE} {tl th : TO} {m : EnvM → Bag → Res PD} {ml mh : EnvM → Bag → Res (Option Int)} {pos p2 : Pos} (he : ED X W e t m) (hl : OD X W lo tl ml) (hh : OD X W hi th mh) :
    ED X W (.Subscript e (.Slice lo hi none p2) pos) (tSl (rSlU X.K) t tl th) (mSl m ml mh) := by
  obtain ⟨p, r⟩ := he
  obtain ⟨pl, rl⟩ := hl
  obtain ⟨ph, rh⟩ := hh
  refine ⟨pe_slice sl_U p pl ph, fun w G0 H0 σ env G H B Q R h => ?_⟩
  refine r w G0 H0 σ env G H B _ R (PostR.bind h fun x B1 v G1 H1 s1 o1 d1 h1 => ?_)
  refine rl w G0 H0 σ env G1 H1 B1 _ (R.step s1 o1) (PostR.bind h1 fun l B2 l' G2 H2 s2 o2 e2 h2 => ?_)
  subst e2
  refine rh w G0 H0 σ env G2 H2 B2 _ ((R.step s1 o1).step s2 o2) (PostR.bind h2 fun u B3 u' G3 H3 s3 o3 e3 h3 => ?_)
  subst e3
  have d3 := (d1.mono s2.exG).mono s3.exG
  unfold sliceP at h3
  cases x with
  | list xs =>
    cases d3 with
    | lst hx rx => exact .inl ⟨_, _, rfl, subL o3.sub hx, fun p hp => h3 _ _ _ (Step.new o3.sub hp) (o3.new hp) (.lst upd_same ((rx.cut l' u').mono (new_sub o3.sub hp)))⟩
  | tuple xs =>
    cases d3 with
    | tup hx rx =>
      rename_i a vs
      refine .inr (.inl ⟨_, _, rfl, subT o3.sub hx, fun hw => ?_, fun hw p hp => h3 _ _ _ (Step.new o3.sub hp) (o3.new hp) (.tup (SqT.of upd_same) ((rx.cut l' u').mono (new_sub o3.sub hp)))⟩)
      refine h3 _ _ _ Step.refl o3 (.tup hx ?_)
      have q := rx.cut l' u'
      unfold cutV at q
      rw [hw.1, hw.2, List.drop_zero, Nat.sub_zero, List.take_length] at q
      exact q
  | str z =>
    have e := d3.str_inv
    subst e
    by_cases hl : z.length ≤ sizeLine
    · simp only [if_pos hl] at h3
      exact .inr (.inr ⟨z, rfl, hl, h3 _ _ _ Step.refl o3 (.str _)⟩)
    · simp only [if_neg hl] at h3
      exact h3.elim
  | _ => exact (show False from h3).elim

/-! ### built-in calls -/
def CaD (X : Cx) (r : List V → Hp → VK → Prop) (g : List PD → Option PD) : Prop := ∀ (w : Wd) (G H : Hp) (B : Bag) (vs : List V) (ds : List PD) (z : PD) (Q : VK), Ok w G H B → DRs X.K G vs ds → g ds = some z →
  (∀ (v : V) (G' H' : Hp), Step w G H G' H' → Ok w G' H' B → DR X.K G' v z → Q v H') → r vs H Q
def mCa (g : List PD → Option PD) (m : EnvM → Bag → Res (List SV)) : EnvM → Bag → Res PD := fun env B => (m env B).bind fun ss B1 => match (unD ss).bind g with
  | some z => .ok z B1
  | none => .bad
theorem ca_sem {es : List Expr} {t : TA} {m : EnvM → Bag → Res (List SV)} {r : List V → Hp → VK → Prop} {g : List PD → Option PD} (hd : CaD X r g) (ha : AD X W es t m) (w : Wd) (G0 H0 : Hp) (σ : L2.St) (env : EnvM) (G H : Hp) (B : Bag) (Q : VK)
    (R : Rel X.K w G0 H0 σ env G H B) (h : PostE X.K X.mg w G H (mCa g m env B) Q (fun c d H' => W c d σ H')) : tCB r t σ H Q := by
  refine ha.sem w G0 H0 σ env G H B _ R (PostR.bind h fun ss B1 vs G1 H1 s1 o1 d1 h1 => ?_)
  cases e : unD ss with
  | none => rw [e] at h1; exact h1.elim
  | some ds =>
    rw [e] at h1
    have h1 : PostE X.K X.mg w G1 H1 (match g ds with | some z => .ok z B1 | none => .bad) Q (fun c d H' => W c d σ H') := h1
    cases e2 : g ds with
    | none => rw [e2] at h1; exact h1.elim
    | some z =>
      rw [e2] at h1
      exact hd w G1 H1 B1 vs ds z Q o1 (d1.un e) e2 h1
theorem ed_ca {id : String} {x : Str} {e : Expr} {es : List Expr} {p pos : Pos} {t : TA} {m : EnvM → Bag → Res (List SV)} {r : List V → Hp → VK → Prop} {g : List PD → Option PD} (hc : CallR X (.builtin id) r) (hd : CaD X r g) (hm : X.mg x = none) (hv : bootBuiltins x = some (.builtin id)) (ha : AD X W (e :: es) t m)
    (hg : Gl X x := by rfl) (hn : x ≠ "__name__" := by decide) (hdb : (x == ("__debug__" : Str)) = false := by decide)
    (he : starEach (e :: es) X.env = (false, eval e X.env) :: starEach es X.env := by rfl) (hpl : (backTo pos (starEach es X.env)).any (·.1) = false := by rfl) : ED X W (.Call (.Name x p) (e :: es) [] pos) (tCB r t) (mCa g m) :=
  ⟨pe_callB hc hg hm hv ha.pe hn hdb he hpl, ca_sem hd ha⟩
theorem ed_ct {T : String} {x : Str} {e : Expr} {es : List Expr} {p pos : Pos} {t : TA} {m : EnvM → Bag → Res (List SV)} {r : List V → Hp → VK → Prop} {g : List PD → Option PD} (hc : CallR X (.type T) r) (hd : CaD X r g) (hm : X.mg x = none) (hv : bootBuiltins x = some (.type T)) (ha : AD X W (e :: es) t m)
    (hg : Gl X x := by rfl) (hn : x ≠ "__name__" := by decide) (hdb : (x == ("__debug__" : Str)) = false := by decide)
    (he : starEach (e :: es) X.env = (false, eval e X.env) :: starEach es X.env := by rfl) (hpl : (backTo pos (starEach es X.env)).any (·.1) = false := by rfl) : ED X W (.Call (.Name x p) (e :: es) [] pos) (tCB r t) (mCa g m) :=
  ⟨pe_callTy hc hg hm hv ha.pe hn hdb he hpl, ca_sem hd ha⟩
def lenP : List PD → Option PD
  | [.str x] => if x.length ≤ sizeLine then some (.int (x.length : Int)) else none
  | [.list xs] => some (.int (xs.length : Int))
  | [.tuple xs] => some (.int (xs.length : Int))
  | _ => none
theorem DRs.one {K : Fg} {G : Hp} {vs : List V} {d : PD} (r : DRs K G vs [d]) : ∃ v, vs = [v] ∧ DR K G v d := by
  cases r with
  | cons h t =>
    cases t
    exact ⟨_, rfl, h⟩
theorem ca_len : CaD X (fun xs H Q => ∃ x n, xs = [x] ∧ LenV X.K x H n ∧ Q (.int n) H) lenP := by
  intro w G H B vs ds z Q o r hz k
  unfold lenP at hz
  split at hz
  · obtain ⟨hl, rfl⟩ := some_if hz
    obtain ⟨v, rfl, d⟩ := r.one
    cases d
    exact ⟨_, _, rfl, ⟨hl, rfl⟩, k _ G H Step.refl o (.int _)⟩
  · cases hz
    obtain ⟨v, rfl, d⟩ := r.one
    cases d with
    | lst hx q => exact ⟨_, _, rfl, .inl ⟨_, subL o.sub hx, rfl⟩, by rw [q.length]; exact k _ G H Step.refl o (.int _)⟩
  · cases hz
    obtain ⟨v, rfl, d⟩ := r.one
    cases d with
    | tup hx q => exact ⟨_, _, rfl, .inr ⟨_, subT o.sub hx, rfl⟩, by rw [q.length]; exact k _ G H Step.refl o (.int _)⟩
  · cases hz
def absP : List PD → Option PD
  | [.int i] => some (.int (if i < 0 then -i else i))
  | _ => none
theorem ca_abs : CaD X (fun xs H Q => ∃ i, xs = [.int i] ∧ Q (.int (if i < 0 then -i else i)) H) absP := by
  intro w G H B vs ds z Q o r hz k
  unfold absP at hz
  split at hz
  · cases hz
    obtain ⟨v, rfl, d⟩ := r.one
    cases d
    exact ⟨_, rfl, k _ G H Step.refl o (.int _)⟩
  · cases hz
def intP : List PD → Option PD
  | [.int i] => some (.int i)
  | [.bool b] => some (.int (if b then 1 else 0))
  | _ => none
theorem ca_int : CaD X (fun xs H Q => (∃ i, xs = [.int i] ∧ Q (.int i) H) ∨ ∃ k, xs = [.bl k] ∧ Q (.int (if k then 1 else 0)) H) intP := by
  intro w G H B vs ds z Q o r hz k
  unfold intP at hz
  split at hz
  · cases hz
    obtain ⟨v, rfl, d⟩ := r.one
    cases d
    exact .inl ⟨_, rfl, k _ G H Step.refl o (.int _)⟩
  · cases hz
    obtain ⟨v, rfl, d⟩ := r.one
    cases d
    exact .inr ⟨_, rfl, k _ G H Step.refl o (.int _)⟩
  · cases hz
def listP : List PD → Option PD
  | [.list xs] => some (.list xs)
  | [.tuple xs] => some (.list xs)
  | _ => none
theorem ca_list : CaD X (fun xs H Q => ∃ p ys, xs = [.ref p] ∧ (SqL X.K H p ys ∨ SqT X.K H p ys) ∧ ∀ l, H l = none → Q (.ref l) (upd H l (.lst ys))) listP := by
  intro w G H B vs ds z Q o r hz k
  unfold listP at hz
  split at hz
  · cases hz
    obtain ⟨v, rfl, d⟩ := r.one
    cases d with
    | lst hx q => exact ⟨_, _, rfl, .inl (subL o.sub hx), fun l hl => k _ _ _ (Step.new o.sub hl) (o.new hl) (.lst upd_same (q.mono (new_sub o.sub hl)))⟩
  · cases hz
    obtain ⟨v, rfl, d⟩ := r.one
    cases d with
    | tup hx q => exact ⟨_, _, rfl, .inr (subT o.sub hx), fun l hl => k _ _ _ (Step.new o.sub hl) (o.new hl) (.lst upd_same (q.mono (new_sub o.sub hl)))⟩
  · cases hz
def tupleP : List PD → Option PD
  | [.list xs] => some (.tuple xs)
  | [.tuple xs] => some (.tuple xs)
  | _ => none
theorem ca_tuple : CaD X (fun xs H Q => ∃ p ys, xs = [.ref p] ∧ ((SqL X.K H p ys ∧ ∀ l, H l = none → Q (.ref l) (upd H l (.tup ys))) ∨ (SqT X.K H p ys ∧ Q (.ref p) H))) tupleP := by
  intro w G H B vs ds z Q o r hz k
  unfold tupleP at hz
  split at hz
  · cases hz
    obtain ⟨v, rfl, d⟩ := r.one
    cases d with
    | lst hx q => exact ⟨_, _, rfl, .inl ⟨subL o.sub hx, fun l hl => k _ _ _ (Step.new o.sub hl) (o.new hl) (.tup (SqT.of upd_same) (q.mono (new_sub o.sub hl)))⟩⟩
  · cases hz
    obtain ⟨v, rfl, d⟩ := r.one
    cases d with
    | tup hx q => exact ⟨_, _, rfl, .inr ⟨subT o.sub hx, k _ G H Step.refl o (.tup hx q)⟩⟩
  · cases hz
def unI : List PD → Option (List Int)
  | [] => some []
  | .int i :: r => (unI r).map (i :: ·)
  | _ :: _ => none
theorem unI_eq : ∀ {ds : List PD} {ns : List Int}, unI ds = some ns → ds = ns.map PyData.int
  | [], ns, h => by cases h; rfl
  | d :: r, ns, h => by
    cases d with
    | int i =>
      unfold unI at h
      cases q : unI r with
      | none => rw [q] at h; cases h
      | some t =>
        rw [q] at h
        cases h
        rw [unI_eq q]
        rfl
    | _ => cases h
theorem unI_map (ns : List Int) : unI (ns.map PyData.int) = some ns := by
  induction ns with
  | nil => rfl
  | cons n r ih =>
    rw [List.map_cons]
    unfold unI
    rw [ih]
    rfl
def unBo : List PD → Option (List Bool)
  | [] => some []
  | .bool i :: r => (unBo r).map (i :: ·)
  | _ :: _ => none
theorem unBo_eq : ∀ {ds : List PD} {ns : List Bool}, unBo ds = some ns → ds = ns.map PyData.bool
  | [], ns, h => by cases h; rfl
  | d :: r, ns, h => by
    cases d with
    | bool i =>
      unfold unBo at h
      cases q : unBo r with
      | none => rw [q] at h; cases h
      | some t =>
        rw [q] at h
        cases h
        rw [unBo_eq q]
        rfl
    | _ => cases h
theorem unBo_map (ns : List Bool) : unBo (ns.map PyData.bool) = some ns := by
  induction ns with
  | nil => rfl
  | cons n r ih =>
    rw [List.map_cons]
    unfold unBo
    rw [ih]
    rfl
def onInts (f : List Int → Option PD) : List PD → Option PD
  | [.list xs] => (unI xs).bind f
  | _ => none
def onBools (f : List Bool → Option PD) : List PD → Option PD
  | [.list xs] => (unBo xs).bind f
  | _ => none
theorem onInts_inv {f : List Int → Option PD} {ds : List PD} {z : PD} (h : onInts f ds = some z) : ∃ ns, ds = [.list (ns.map PyData.int)] ∧ f ns = some z := by
  unfold onInts at h
  split at h
  · rename_i xs
    cases q : unI xs with
    | none => rw [q] at h; cases h
    | some ns =>
      rw [q] at h
      exact ⟨ns, by rw [unI_eq q], h⟩
  · cases h
theorem onBools_inv {f : List Bool → Option PD} {ds : List PD} {z : PD} (h : onBools f ds = some z) : ∃ ns, ds = [.list (ns.map PyData.bool)] ∧ f ns = some z := by
  unfold onBools at h
  split at h
  · rename_i xs
    cases q : unBo xs with
    | none => rw [q] at h; cases h
    | some ns =>
      rw [q] at h
      exact ⟨ns, by rw [unBo_eq q], h⟩
  · cases h
def sumP : List PD → Option PD := onInts fun ns => some (.int ns.sum)
def allP : List PD → Option PD := onBools fun bs => some (.bool (bs.all id))
def anyP : List PD → Option PD := onBools fun bs => some (.bool (bs.any id))
def sortI (ns : List Int) : List Int := ns.mergeSort fun i j => decide (i ≤ j)
def sortedP : List PD → Option PD := onInts fun ns => some (.list ((sortI ns).map PyData.int))
theorem ca_sum : CaD X (rSum X.K) sumP := by
  intro w G H B vs ds z Q o r hz k
  unfold sumP at hz
  obtain ⟨ns, rfl, hz2⟩ := onInts_inv hz
  cases hz2
  obtain ⟨v, rfl, d⟩ := r.one
  cases d with
  | lst hx q =>
    have e := q.of_ints
    subst e
    exact ⟨_, _, rfl, subL o.sub hx, k _ G H Step.refl o (.int _)⟩
theorem ca_all : CaD X (rAll X.K) allP := by
  intro w G H B vs ds z Q o r hz k
  unfold allP at hz
  obtain ⟨ns, rfl, hz2⟩ := onBools_inv hz
  cases hz2
  obtain ⟨v, rfl, d⟩ := r.one
  cases d with
  | lst hx q =>
    have e := q.of_bools
    subst e
    exact ⟨_, _, rfl, subL o.sub hx, k _ G H Step.refl o (.bl _)⟩
theorem ca_any : CaD X (rAny X.K) anyP := by
  intro w G H B vs ds z Q o r hz k
  unfold anyP at hz
  obtain ⟨ns, rfl, hz2⟩ := onBools_inv hz
  cases hz2
  obtain ⟨v, rfl, d⟩ := r.one
  cases d with
  | lst hx q =>
    have e := q.of_bools
    subst e
    exact ⟨_, _, rfl, subL o.sub hx, k _ G H Step.refl o (.bl _)⟩
theorem sortI_only {ns ns' : List Int} (p : ns'.Perm ns) (s : ns'.Pairwise (· ≤ ·)) : ns' = sortI ns := by
  have h1 : (sortI ns).Pairwise (· ≤ ·) := by
    have q := List.pairwise_mergeSort (le := fun i j : Int => decide (i ≤ j)) (fun a b c h1 h2 => by simp only [decide_eq_true_eq] at *; omega) (fun a b => by simp only [Bool.or_eq_true, decide_eq_true_eq]; omega) ns
    exact q.imp fun h => of_decide_eq_true h
  have h2 : (sortI ns).Perm ns := List.mergeSort_perm ns _
  exact List.Perm.eq_of_pairwise (fun a b _ _ h1 h2 => Int.le_antisymm h1 h2) s h1 (p.trans h2.symm)
theorem ca_sorted : CaD X (rSortedI X.K) sortedP := by
  intro w G H B vs ds z Q o r hz k
  unfold sortedP at hz
  obtain ⟨ns, rfl, hz2⟩ := onInts_inv hz
  cases hz2
  obtain ⟨v, rfl, d⟩ := r.one
  cases d with
  | lst hx q =>
    have e := q.of_ints
    subst e
    refine ⟨_, _, rfl, subL o.sub hx, fun ns' p hp hs hn => ?_⟩
    have e2 := sortI_only hp hs
    subst e2
    exact k _ _ _ (Step.new o.sub hn) (o.new hn) (.lst upd_same (DRs.ints _))
end
end DL
set_option Elab.async false
set_option linter.all false
set_option maxRecDepth 100000
set_option maxHeartbeats 2000000
/-! DL3: slots, targets, statements, loops, defs. -/
namespace DL
open PySem L2
theorem Sub.refl (G : Hp) : Sub G G := fun _ _ h => h
theorem Sub.trans {A B C : Hp} (h : Sub A B) (k : Sub B C) : Sub A C := fun a o q => k a o (h a o q)
/-! ### the slots change -/
section
variable {K : Fg} {w : Wd} {G0 H0 : Hp} {σ : L2.St} {env : EnvM} {G H G' H' : Hp} {B B' : Bag} {v : V} {sv : SV}
theorem Rel.put (R : Rel K w G0 H0 σ env G H B) (i : Nat) {o : Option SV} {u : Option V} (h : ∀ sv, o = some sv → ∃ v, u = some v ∧ SR K w H0 G H v sv)
    (hd : ∀ sv, o = some sv → sv.isOwn = true → ∀ (j : Nat) (sj : SV) (p : Addr), i ≠ j → env[j]? = some (some sj) → sj.isOwn = true → u = some (.ref p) → σ[j]? ≠ some (some (.ref p))) :
    Rel K w G0 H0 (σ.set i u) (env.set i o) G H B := by
  have hl := R.len
  refine ⟨R.ok, R.ent, by rw [List.length_set, List.length_set]; exact hl, fun j sv e => ?_, fun j k si sk p hjk e1 o1 e2 o2 s1 s2 => ?_⟩
  · by_cases hj : i = j
    · subst hj
      by_cases hi : i < env.length
      · rw [List.getElem?_set_self hi] at e
        obtain ⟨v, e2, q⟩ := h sv (Option.some.inj e)
        exact ⟨v, by rw [List.getElem?_set_self (by omega), e2], q⟩
      · rw [List.getElem?_eq_none (by rw [List.length_set]; omega)] at e
        cases e
    · rw [List.getElem?_set_ne hj] at e ⊢
      exact R.slot j sv e
  · by_cases hj : i = j
    · subst hj
      have hi : i < env.length := by
        have q := (List.getElem?_eq_some_iff.mp e1).1
        rw [List.length_set] at q
        exact q
      rw [List.getElem?_set_self hi] at e1
      rw [List.getElem?_set_self (by omega)] at s1
      rw [List.getElem?_set_ne hjk] at e2 s2
      exact hd si (Option.some.inj e1) o1 k sk p hjk e2 o2 (Option.some.inj s1) s2
    · rw [List.getElem?_set_ne hj] at e1 s1
      by_cases hk : i = k
      · subst hk
        have hi : i < env.length := by
          have q := (List.getElem?_eq_some_iff.mp e2).1
          rw [List.length_set] at q
          exact q
        rw [List.getElem?_set_self hi] at e2
        rw [List.getElem?_set_self (by omega)] at s2
        exact hd sk (Option.some.inj e2) o2 j si p (fun z => hjk z.symm) e1 o1 (Option.some.inj s2) s1
      · rw [List.getElem?_set_ne hk] at e2 s2
        exact R.dist j k si sk p hjk e1 o1 e2 o2 s1 s2
theorem Rel.set (R : Rel K w G0 H0 σ env G H B) (i : Nat) {d : PD} (h : DR K G v d) : Rel K w G0 H0 (σ.set i (some v)) (env.set i (some (.d d))) G H B :=
  R.put i (fun sv e => by cases e; exact ⟨v, rfl, h⟩) fun sv e o => by cases e; cases o
theorem Rel.drop (R : Rel K w G0 H0 σ env G H B) (i : Nat) (u : Option V) : Rel K w G0 H0 (σ.set i u) (env.set i none) G H B :=
  R.put i (fun sv e => by cases e) fun sv e => by cases e
def wipeE (env : EnvM) : List Nat → EnvM
  | [] => env
  | v :: vs => (wipeE env vs).set v none
theorem Rel.wipe (R : Rel K w G0 H0 σ env G H B) : ∀ vs : List Nat, Rel K w G0 H0 (wipe σ vs) (wipeE env vs) G H B
  | [] => R
  | v :: vs => (Rel.wipe R vs).drop v none
end
theorem wipe_ne {σ : L2.St} {i : Nat} {o : Option V} : ∀ {vs : List Nat}, i ∉ vs → wipe (σ.set i o) vs = (wipe σ vs).set i o
  | [], _ => rfl
  | v :: vs, h => by
    have h1 : i ≠ v := fun e => h (by rw [e]; exact List.mem_cons_self)
    have h2 : i ∉ vs := fun e => h (List.mem_cons_of_mem _ e)
    show (wipe (σ.set i o) vs).set v none = ((wipe σ vs).set v none).set i o
    rw [wipe_ne h2, List.set_comm _ _ h1]
theorem wipe_set {σ : L2.St} {i : Nat} {o : Option V} : ∀ {vs : List Nat}, i ∈ vs → wipe (σ.set i o) vs = wipe σ vs
  | [], h => by cases h
  | v :: vs, h => by
    show (wipe (σ.set i o) vs).set v none = (wipe σ vs).set v none
    by_cases h2 : i ∈ vs
    · rw [wipe_set h2]
    · have e : i = v := by
        rcases List.mem_cons.mp h with e | e
        · exact e
        · exact absurd e h2
      subst e
      rw [wipe_ne h2, List.set_set]
/-! ### targets -/
structure GT (X : Cx) (tg : Expr) (g : TG) (mg : PD → EnvM → Option EnvM) (js : List Nat) : Prop where
  pg : PG X tg g
  sem : ∀ (w : Wd) (G0 H0 : Hp) (σ : L2.St) (env : EnvM) (G H : Hp) (B : Bag) (v : V) (d : PD) (env' : EnvM) (Q : L2.St → Hp → Prop), Rel X.K w G0 H0 σ env G H B → DR X.K G v d → mg d env = some env' →
    (∀ σ' : L2.St, Rel X.K w G0 H0 σ' env' G H B → (∀ vs : List Nat, (∀ j ∈ js, j ∈ vs) → wipe σ' vs = wipe σ vs) → Q σ' H) → g v σ H Q
structure GTs (X : Cx) (ts : List Expr) (g : TGs) (mg : List PD → EnvM → Option EnvM) (js : List Nat) : Prop where
  pg : PGs X ts g
  sem : ∀ (w : Wd) (G0 H0 : Hp) (σ : L2.St) (env : EnvM) (G H : Hp) (B : Bag) (vs : List V) (ds : List PD) (env' : EnvM) (Q : L2.St → Hp → Prop), Rel X.K w G0 H0 σ env G H B → DRs X.K G vs ds → mg ds env = some env' →
    (∀ σ' : L2.St, Rel X.K w G0 H0 σ' env' G H B → (∀ us : List Nat, (∀ j ∈ js, j ∈ us) → wipe σ' us = wipe σ us) → Q σ' H) → g vs σ H Q
section
variable {X : Cx} {W : WX}
def mgName (i : Nat) : PD → EnvM → Option EnvM := fun d env => some (env.set i (some (.d d)))
theorem gt_name (i : Nat) {x : Str} {pos : Pos} (hN : X.N.Nodup) (hi : X.N[i]? = some x := by rfl) (hx : Loc X.env.scope x := by first | exact Or.inl rfl | exact Or.inr rfl) (hf : X.fn x = true ∨ X.env.scope.names.lookup x = some .local := by first | exact .inl rfl | exact .inr rfl) : GT X (.Name x pos) (gName i) (mgName i) [i] := by
  refine ⟨pg_name hN hi hx hf, fun w G0 H0 σ env G H B v d env' Q R h e k => ?_⟩
  cases e
  exact k _ (R.set i h) fun vs hv => wipe_set (hv i List.mem_cons_self)
def mgNil : List PD → EnvM → Option EnvM := fun ds env => match ds with
  | [] => some env
  | _ => none
def mgCons (a : PD → EnvM → Option EnvM) (r : List PD → EnvM → Option EnvM) : List PD → EnvM → Option EnvM := fun ds env => match ds with
  | d :: ds => (a d env).bind (r ds)
  | [] => none
theorem gts_nil : GTs X [] gNil mgNil [] := by
  refine ⟨pgs_nil, fun w G0 H0 σ env G H B vs ds env' Q R h e k => ?_⟩
  cases ds with
  | nil =>
    cases h
    cases e
    exact ⟨rfl, k σ R fun _ _ => rfl⟩
  | cons d ds => cases e
theorem gts_cons {e : Expr} {es : List Expr} {g : TG} {gs : TGs} {ma : PD → EnvM → Option EnvM} {mr : List PD → EnvM → Option EnvM} {js ks : List Nat} (h1 : GT X e g ma js) (h2 : GTs X es gs mr ks)
    (hs : (assignEach (e :: es) X.env).map (·.2) = assign e X.env :: (assignEach es X.env).map (·.2) := by rfl) : GTs X (e :: es) (gCons g gs) (mgCons ma mr) (js ++ ks) := by
  refine ⟨pgs_cons h1.pg h2.pg hs, fun w G0 H0 σ env G H B vs ds env' Q R h e k => ?_⟩
  cases ds with
  | nil => cases e
  | cons d ds =>
    cases h with
    | cons hd hr =>
      rename_i v vs
      have e : (ma d env).bind (mr ds) = some env' := e
      cases q : ma d env with
      | none => rw [q] at e; cases e
      | some env1 =>
        rw [q] at e
        refine ⟨v, vs, rfl, h1.sem w G0 H0 σ env G H B v d env1 _ R hd q fun σ1 R1 w1 => ?_⟩
        refine h2.sem w G0 H0 σ1 env1 G H B vs ds env' _ R1 hr e fun σ2 R2 w2 => k σ2 R2 fun us hu => ?_
        rw [w2 us fun j hj => hu j (List.mem_append_right _ hj), w1 us fun j hj => hu j (List.mem_append_left _ hj)]
def mgTup (r : List PD → EnvM → Option EnvM) (n : Nat) : PD → EnvM → Option EnvM := fun d env => match d with
  | .tuple ds => if ds.length = n then r ds env else none
  | _ => none
theorem gt_tup {es : List Expr} {k : Nat} {g : TGs} {mr : List PD → EnvM → Option EnvM} {js : List Nat} {n : Nat} {pos : Pos} (hc : X.calm = true) (h : GTs X es g mr js)
    (hn : (assignEach es X.env).length = n := by rfl) (hst : (assignEach es X.env).findIdx? (·.1) = none := by rfl) : GT X (.Tuple es k pos) (gTup X.K n g) (mgTup mr n) js := by
  refine ⟨pg_tup hc h.pg hn hst, fun w G0 H0 σ env G H B v d env' Q R hd e k => ?_⟩
  cases d with
  | tuple ds =>
    have e : (if ds.length = n then mr ds env else none) = some env' := e
    by_cases hl : ds.length = n
    · rw [if_pos hl] at e
      cases hd with
      | tup hx r => exact ⟨_, _, rfl, subT R.ok.sub hx, by rw [r.length]; exact hl, h.sem w G0 H0 σ env G H B _ ds env' Q R r e k⟩
    · rw [if_neg hl] at e; cases e
  | _ => cases e

/-! ### statements -/
def Res.s {α : Type} (r : Res α) (k : α → Bag → SRes) : SRes := match r with
  | .ok a B => k a B
  | .exc c as B => .exc c as B
  | .bad => .bad
theorem PostS.bind {α β : Type} {K : Fg} {mg : Str → Option Value} {w : Wd} {G0 H0 G H Gs : Hp} {Ra : Hp → β → α → Prop} {r : Res α} {f : α → Bag → SRes} {Q1 : β → Hp → Prop} {D : Ends} {σ : L2.St} (he : Step w G0 H0 G H)
    (h : PostS K mg w G0 H0 Gs W D (r.s f)) (k : ∀ a B' v G' H', Step w G H G' H' → Ok w G' H' B' → Ra G' v a → PostS K mg w G0 H0 Gs W D (f a B') → Q1 v H') : PostR K mg w G H Ra r Q1 (fun c d H' => W c d σ H') := by
  cases r with
  | ok a B => exact fun v G2 H2 s2 o d => k a B v G2 H2 s2 o d h
  | exc c as B => exact exc_ent he (h σ)
  | bad => exact h
def mSkip : EnvM → Bag → SRes := fun env B => .nx env B
def mSeq (a b : EnvM → Bag → SRes) : EnvM → Bag → SRes := fun env B => match a env B with
  | .nx env1 B1 => b env1 B1
  | r => r
theorem sds_nil : SDs X W [] tNext mSkip := ⟨pss_nil, fun w G0 H0 σ env G H B D R h => h σ G H R (Sub.refl G)⟩
theorem sds_cons {st : Stmt} {rest : List Stmt} {t u : TS} {a b : EnvM → Bag → SRes} (h1 : SD X W st t a) (h2 : SDs X W rest u b) : SDs X W (st :: rest) (tSeq t u) (mSeq a b) := by
  refine ⟨pss_cons h1.pe h2.pe, fun w G0 H0 σ env G H B D R h => ?_⟩
  refine h1.sem w G0 H0 σ env G H B _ R ?_
  unfold mSeq at h
  cases e : a env B with
  | nx env1 B1 =>
    rw [e] at h
    exact fun σ' G' H' R' s' => h2.sem w G0 H0 σ' env1 G' H' B1 D R' (h.sub s')
  | bk env1 B1 => rw [e] at h; exact h
  | ct env1 B1 => rw [e] at h; exact h
  | ret d B1 => rw [e] at h; exact h
  | exc c as B1 => rw [e] at h; exact h
  | bad => rw [e] at h; exact h
theorem sds_one {st : Stmt} {t : TS} {a : EnvM → Bag → SRes} (h1 : SD X W st t a) : SDs X W [st] t a := ⟨pss_one h1.pe, h1.sem⟩
def mSet (g : PD → EnvM → Option EnvM) (m : EnvM → Bag → Res PD) : EnvM → Bag → SRes := fun env B => (m env B).s fun d B1 => match g d env with
  | some env1 => .nx env1 B1
  | none => .bad
/-- x = e -/
theorem sd_set (i : Nat) {x : Str} {e : Expr} {t : TE} {m : EnvM → Bag → Res PD} {pos pos' : Pos} (hN : X.N.Nodup) (he : ED X W e t m) (hi : X.N[i]? = some x := by rfl) (hx : Loc X.env.scope x := by first | exact Or.inl rfl | exact Or.inr rfl)
    (hs : swapsWith e (some (.Name x pos')) pos.line X.env = pure false := by rfl) (hf : X.fn x = true ∨ X.env.scope.names.lookup x = some .local := by first | exact .inl rfl | exact .inr rfl) :
    SD X W (.Assign [.Name x pos'] e pos) (tAsg t (gName i)) (mSet (mgName i) m) := by
  refine ⟨ps_set hN hi hx he.pe hs hf, fun w G0 H0 σ env G H B D R h => ?_⟩
  refine he.sem w G0 H0 σ env G H B _ R (PostS.bind (σ := σ) R.ent h fun d B1 v G1 H1 s1 o1 d1 h1 => ?_)
  exact h1 _ G1 H1 ((R.step s1 o1).set i d1) s1.exG
/-- target = e -/
theorem sd_asg {tg e : Expr} {t : TE} {g : TG} {m : EnvM → Bag → Res PD} {mg : PD → EnvM → Option EnvM} {js : List Nat} {pos : Pos} (he : ED X W e t m) (hg : GT X tg g mg js) (hs : swapsWithSole [tg] e pos.line X.env = pure false := by rfl) (hw : swappedStores [tg] e X.env = pure none := by rfl)
    (h1 : (assignEach [tg] X.env).map (·.2) = [assign tg X.env] := by rfl) : SD X W (.Assign [tg] e pos) (tAsg t g) (mSet mg m) := by
  refine ⟨ps_asg he.pe hg.pg hs hw h1, fun w G0 H0 σ env G H B D R h => ?_⟩
  refine he.sem w G0 H0 σ env G H B _ R (PostS.bind (σ := σ) R.ent h fun d B1 v G1 H1 s1 o1 d1 h1 => ?_)
  cases q : mg d env with
  | none => simp only [q] at h1; exact h1.elim
  | some env1 =>
    simp only [q] at h1
    exact hg.sem w G0 H0 σ env G1 H1 B1 v d env1 _ (R.step s1 o1) d1 q fun σ' R' _ => h1 σ' G1 H1 R' s1.exG
/-- a, b = e1, e2 -/
def mPar (i j : Nat) (m : EnvM → Bag → Res (List SV)) : EnvM → Bag → SRes := fun env B => (m env B).s fun ss B1 => match unD ss with
  | some [d, e] => .nx ((env.set i (some (.d d))).set j (some (.d e))) B1
  | _ => .bad
theorem sd_par (i j : Nat) {x y : Str} {a b : Expr} {ta : TA} {m : EnvM → Bag → Res (List SV)} {px py pt pos : Pos} {kt k2 pt2} (hc : X.calm = true) (hN : X.N.Nodup) (ha : AD X W [a, b] ta m) (hi : X.N[i]? = some x := by rfl) (hj : X.N[j]? = some y := by rfl) (hij : i ≠ j := by decide)
    (hx : X.env.scope.names.lookup x = some .local := by rfl) (hy : X.env.scope.names.lookup y = some .local := by rfl)
    (hw : swappedStores [.Tuple [.Name x px, .Name y py] kt pt] (.Tuple [a, b] k2 pt2) X.env = pure (some [x, y]) := by rfl)
    (hs : swapsWithSole [.Tuple [.Name x px, .Name y py] kt pt] (.Tuple [a, b] k2 pt2) pos.line X.env = pure false := by rfl) :
    SD X W (.Assign [.Tuple [.Name x px, .Name y py] kt pt] (.Tuple [a, b] k2 pt2) pos) (tPar i j ta) (mPar i j m) := by
  refine ⟨ps_par hc hN hi hj hij hx hy ha.pe hw hs, fun w G0 H0 σ env G H B D R h => ?_⟩
  refine ha.sem w G0 H0 σ env G H B _ R (PostS.bind (σ := σ) R.ent h fun ss B1 vs G1 H1 s1 o1 d1 h1 => ?_)
  cases e : unD ss with
  | none => simp only [e] at h1; exact h1.elim
  | some ds =>
    have q := d1.un e
    match ds, e, q with
    | [], e, q => simp only [e] at h1; exact h1.elim
    | [_], e, q => simp only [e] at h1; exact h1.elim
    | [d, d'], e, .cons hd (.cons hd' .nil) =>
      simp only [e] at h1
      exact ⟨_, _, rfl, h1 _ G1 H1 (((R.step s1 o1).set i hd).set j hd') s1.exG⟩
    | _ :: _ :: _ :: _, e, q => simp only [e] at h1; exact h1.elim
/-- return e -/
def mRet (m : EnvM → Bag → Res PD) : EnvM → Bag → SRes := fun env B => (m env B).s fun d B1 => .ret d B1
theorem sd_ret {e : Expr} {t : TE} {m : EnvM → Bag → Res PD} {pos : Pos} (he : ED X W e t m) : SD X W (.Return (some e) pos) (tRet t) (mRet m) := by
  refine ⟨ps_ret he.pe, fun w G0 H0 σ env G H B D R h => ?_⟩
  refine he.sem w G0 H0 σ env G H B _ R (PostS.bind (σ := σ) R.ent h fun d B1 v G1 H1 s1 o1 d1 h1 => ?_)
  exact h1 v G1 H1 (R.ent.trans s1) o1 d1
def mRetN : EnvM → Bag → SRes := fun _ B => .ret .none B
theorem sd_retN {pos : Pos} : SD X W (.Return none pos) tRetN mRetN := ⟨ps_retN, fun w G0 H0 σ env G H B D R h => h .non G H R.ent R.ok .non⟩
theorem sd_pass {pos : Pos} : SD X W (.Pass pos) tNext mSkip := ⟨ps_pass, fun w G0 H0 σ env G H B D R h => h σ G H R (Sub.refl G)⟩
def mBreak : EnvM → Bag → SRes := fun env B => .bk env B
def mCont : EnvM → Bag → SRes := fun env B => .ct env B
theorem sd_break {pos : Pos} : SD X W (.Break pos) tBreak mBreak := ⟨ps_break, fun w G0 H0 σ env G H B D R h => h σ G H R (Sub.refl G)⟩
theorem sd_cont {pos : Pos} : SD X W (.Continue pos) tCont mCont := ⟨ps_continue, fun w G0 H0 σ env G H B D R h => h σ G H R (Sub.refl G)⟩
/-- e -/
def mDrop (m : EnvM → Bag → Res PD) : EnvM → Bag → SRes := fun env B => (m env B).s fun _ B1 => .nx env B1
theorem sd_expr {e : Expr} {t : TE} {m : EnvM → Bag → Res PD} {pos : Pos} (he : ED X W e t m) (hs : swapsWith e none pos.line X.env = pure false := by rfl) : SD X W (.Expr e pos) (tDrop t) (mDrop m) := by
  refine ⟨ps_expr he.pe hs, fun w G0 H0 σ env G H B D R h => ?_⟩
  refine he.sem w G0 H0 σ env G H B _ R (PostS.bind (σ := σ) R.ent h fun d B1 v G1 H1 s1 o1 d1 h1 => ?_)
  exact h1 σ G1 H1 (R.step s1 o1) s1.exG
/-- if -/
def mIf (c : EnvM → Bag → Res Bool) (a b : EnvM → Bag → SRes) : EnvM → Bag → SRes := fun env B => (c env B).s fun k B1 => if k = true then a env B1 else b env B1
theorem sd_if {c : Expr} {a b : List Stmt} {tc : TT} {t u : TS} {mc : EnvM → Bag → Res Bool} {ma mb : EnvM → Bag → SRes} {pos : Pos} (hc : TD X W c tc mc) (ha : SDs X W a t ma) (hb : SDs X W b u mb) : SD X W (.If c a b pos) (tIfS tc t u) (mIf mc ma mb) := by
  refine ⟨ps_if hc.pe ha.pe hb.pe, fun w G0 H0 σ env G H B D R h => ?_⟩
  refine hc.sem w G0 H0 σ env G H B _ R (PostS.bind (σ := σ) R.ent h fun k B1 v G1 H1 s1 o1 d1 h1 => ?_)
  subst d1
  cases v with
  | true => exact iteT (ha.sem w G0 H0 σ env G1 H1 B1 D (R.step s1 o1) (PostS.sub s1.exG h1))
  | false => exact iteF (hb.sem w G0 H0 σ env G1 H1 B1 D (R.step s1 o1) (PostS.sub s1.exG h1))
/-- x += e, ints -/
def mAug (i : Nat) (f : Int → Int → Int) (m : EnvM → Bag → Res PD) : EnvM → Bag → SRes := fun env B => match env[i]? with
  | some (some (.d (.int a))) => (m env B).s fun d B1 => match d with
    | .int b => .nx (env.set i (some (.d (.int (f a b))))) B1
    | _ => .bad
  | _ => .bad
theorem sd_aug (i : Nat) {x : Str} {e : Expr} {t : TE} {m : EnvM → Bag → Res PD} {op : Operator} {f : Int → Int → Int} {pos pos' : Pos} (hN : X.N.Nodup) (ho : PIp X op (ipI f)) (he : ED X W e t m) (hi : X.N[i]? = some x := by rfl) (hx : Loc X.env.scope x := by first | exact Or.inl rfl | exact Or.inr rfl)
    (hf : X.fn x = true ∨ X.env.scope.names.lookup x = some .local := by first | exact .inl rfl | exact .inr rfl) :
    SD X W (.AugAssign (.Name x pos') op e pos) (tAug i t (ipI f)) (mAug i f m) := by
  refine ⟨ps_aug hN hi hx he.pe ho hf, fun w G0 H0 σ env G H B D R h => ?_⟩
  unfold mAug at h
  split at h
  · rename_i a q
    obtain ⟨v, h1, h2⟩ := R.slot i _ q
    have e := DR.int_inv h2
    subst e
    refine ⟨_, h1, ?_⟩
    refine he.sem w G0 H0 σ env G H B _ R (PostS.bind (σ := σ) R.ent h fun d B1 v G1 H1 s1 o1 d1 h1 => ?_)
    cases d with
    | int b => exact ⟨a, b, rfl, d1.int_inv, h1 _ G1 H1 ((R.step s1 o1).set i (.int _)) s1.exG⟩
    | _ => exact (show False from h1).elim
  · exact h.elim

/-! ### what is walked -/
structure Walks (K : Fg) (J : It) (G : Hp) (ds : List PD) : Prop where
  go : ∀ (i : Nat) (H : Hp) (d : PD), Sub G H → ds[i]? = some d → J.go i H
  yld : ∀ (i : Nat) (w : Wd) (G' H : Hp) (B : Bag) (x : V) (H' : Hp) (d : PD), Ok w G' H B → Sub G G' → ds[i]? = some d → J.yld i H x H' → ∃ G2, Step w G' H G2 H' ∧ Ok w G2 H' B ∧ DR K G2 x d
  stop : ∀ (i : Nat) (H : Hp), Sub G H → ds.length ≤ i → J.stop i H
theorem Walks.list {K : Fg} {G : Hp} {a : Addr} {vs : List V} {ds : List PD} (h : G a = some (.lst vs)) (r : DRs K G vs ds) : Walks K (Itl K a) G ds where
  go := fun i H d hs e => let ⟨v, h1, _⟩ := r.get e; ⟨vs, v, subL hs h, h1⟩
  yld := fun i w G' H B x H' d o hs e y => by
    obtain ⟨e1, y⟩ := y
    subst e1
    obtain ⟨v, h1, h2⟩ := r.get e
    have h3 := y vs (subL o.sub (hs _ _ h))
    rw [h1] at h3
    cases h3
    exact ⟨G', Step.refl, o, h2.mono hs⟩
  stop := fun i H hs e => ⟨vs, subL hs h, by rw [r.length]; exact e⟩
theorem Walks.tuple {K : Fg} {G : Hp} {a : Addr} {vs : List V} {ds : List PD} (h : SqT K G a vs) (r : DRs K G vs ds) : Walks K (Itt K a) G ds where
  go := fun i H d hs e => let ⟨v, h1, _⟩ := r.get e; ⟨vs, v, subT hs h, h1⟩
  yld := fun i w G' H B x H' d o hs e y => by
    obtain ⟨e1, y⟩ := y
    subst e1
    obtain ⟨v, h1, h2⟩ := r.get e
    have h3 := y vs (subT o.sub (subT hs h))
    rw [h1] at h3
    cases h3
    exact ⟨G', Step.refl, o, h2.mono hs⟩
  stop := fun i H hs e => ⟨vs, subT hs h, by rw [r.length]; exact e⟩
def rangeP (lo : Int) (n : Nat) : List PD := (List.range n).map fun i : Nat => .int (lo + (i : Int))
theorem rangeP_get {lo : Int} {n i : Nat} {d : PD} (h : (rangeP lo n)[i]? = some d) : i < n ∧ d = .int (lo + (i : Int)) := by
  unfold rangeP at h
  rw [List.getElem?_map] at h
  cases e : (List.range n)[i]? with
  | none => rw [e] at h; cases h
  | some j =>
    rw [e] at h
    obtain ⟨h1, h2⟩ := List.getElem?_eq_some_iff.mp e
    rw [List.length_range] at h1
    rw [List.getElem_range] at h2
    subst h2
    exact ⟨h1, by cases h; rfl⟩
theorem rangeP_len (lo : Int) (n : Nat) : (rangeP lo n).length = n := by
  unfold rangeP
  rw [List.length_map, List.length_range]
theorem Walks.range {K : Fg} {G : Hp} {lo : Int} {n : Nat} : Walks K (Itr lo n) G (rangeP lo n) where
  go := fun i H d hs e => (rangeP_get e).1
  yld := fun i w G' H B x H' d o hs e y => by
    obtain ⟨e1, y⟩ := y
    subst e1
    obtain ⟨_, h2⟩ := rangeP_get e
    subst h2
    subst y
    exact ⟨G', Step.refl, o, .int _⟩
  stop := fun i H hs e => by rw [rangeP_len] at e; exact e
structure WI (X : Cx) (W : WX) (tg iter : Expr) (wi : TI) (m : EnvM → Bag → Res (List PD)) : Prop where
  pe : PI X tg iter wi
  sem : ∀ (w : Wd) (G0 H0 : Hp) (σ : L2.St) (env : EnvM) (G H : Hp) (B : Bag) (Q : It → Hp → Prop), Rel X.K w G0 H0 σ env G H B →
    PostR X.K X.mg w G H (fun G' J ds => Walks X.K J G' ds) (m env B) Q (fun c d H' => W c d σ H') → wi σ H Q
def mSeqOf (m : EnvM → Bag → Res PD) : EnvM → Bag → Res (List PD) := fun env B => (m env B).bind fun d B1 => match d with
  | .list ds => .ok ds B1
  | .tuple ds => .ok ds B1
  | _ => .bad
theorem pi_or {tg iter : Expr} {w1 w2 : TI} (h1 : PI X tg iter w1) (h2 : PI X tg iter w2) : PI X tg iter (fun σ H R => w1 σ H R ∨ w2 σ H R) :=
  ⟨fun pins s σ H R I h => by
    rcases h with h | h
    · exact h1.run pins s σ H R I h
    · exact h2.run pins s σ H R I h⟩
/-- over a list or a tuple -/
theorem wi_seq {tg e : Expr} {t : TE} {m : EnvM → Bag → Res PD} (h : ED X W e t m) : WI X W tg e (fun σ H R => iList X.K t σ H R ∨ iTup X.K t σ H R) (mSeqOf m) := by
  refine ⟨pi_or (pi_list h.pe) (pi_tup h.pe), fun w G0 H0 σ env G H B Q R hp => ?_⟩
  unfold mSeqOf at hp
  cases e : m env B with
  | ok d B1 =>
    rw [e] at hp
    have mk : ∀ Q1 : VK, (∀ v G' H', Step w G H G' H' → Ok w G' H' B1 → DR X.K G' v d → Q1 v H') → PostE X.K X.mg w G H (m env B) Q1 (fun c d H' => W c d σ H') := fun Q1 k => by
      rw [e]
      exact k
    cases d with
    | list ds =>
      left
      refine h.sem w G0 H0 σ env G H B _ R (mk _ fun v G' H' s o dv => ?_)
      cases dv with
      | lst hx r => exact ⟨_, rfl, ⟨_, subL o.sub hx⟩, hp _ G' H' s o (Walks.list hx r)⟩
    | tuple ds =>
      right
      refine h.sem w G0 H0 σ env G H B _ R (mk _ fun v G' H' s o dv => ?_)
      cases dv with
      | tup hx r => exact ⟨_, rfl, ⟨_, subT o.sub hx⟩, hp _ G' H' s o (Walks.tuple hx r)⟩
    | _ => exact (show False from hp).elim
  | exc c as B1 =>
    rw [e] at hp
    left
    refine h.sem w G0 H0 σ env G H B _ R ?_
    rw [e]
    exact hp
  | bad => rw [e] at hp; exact hp.elim
def mRange1 (m : EnvM → Bag → Res (List SV)) : EnvM → Bag → Res (List PD) := fun env B => (m env B).bind fun ss B1 => match unD ss with
  | some [.int j] => if -(2 ^ 62) ≤ j ∧ j < 2 ^ 62 then .ok (rangeP 0 j.toNat) B1 else .bad
  | _ => .bad
def mRange2 (m : EnvM → Bag → Res (List SV)) : EnvM → Bag → Res (List PD) := fun env B => (m env B).bind fun ss B1 => match unD ss with
  | some [.int i, .int j] => if -(2 ^ 62) ≤ i ∧ i < 2 ^ 62 ∧ -(2 ^ 62) ≤ j ∧ j < 2 ^ 62 then .ok (rangeP i (j - i).toNat) B1 else .bad
  | _ => .bad
theorem wi_range1 {tg a : Expr} {ta : TA} {m : EnvM → Bag → Res (List SV)} {p pos : Pos} (hm : X.mg "range" = none) (ha : AD X W [a] ta m) (hg : Gl X "range" := by rfl) (hs : starEach [a] X.env = [(false, eval a X.env)] := by rfl) : WI X W tg (.Call (.Name "range" p) [a] [] pos) (iRng1 ta) (mRange1 m) := by
  refine ⟨pi_range1 hg hm ha.pe hs, fun w G0 H0 σ env G H B Q R h => ?_⟩
  refine ha.sem w G0 H0 σ env G H B _ R (PostR.bind h fun ss B1 vs G1 H1 s1 o1 d1 h1 => ?_)
  split at h1
  · rename_i j e
    have q := d1.un e
    obtain ⟨v, rfl, dv⟩ := q.one
    cases dv
    by_cases hc : -(2 ^ 62) ≤ j ∧ j < 2 ^ 62
    · rw [if_pos hc] at h1
      exact ⟨j, rfl, hc.1, hc.2, h1 _ G1 H1 Step.refl o1 Walks.range⟩
    · rw [if_neg hc] at h1; exact h1.elim
  · exact h1.elim
theorem wi_range2 {tg a b : Expr} {ta : TA} {m : EnvM → Bag → Res (List SV)} {p pos : Pos} (hm : X.mg "range" = none) (ha : AD X W [a, b] ta m) (hg : Gl X "range" := by rfl) (hs : starEach [a, b] X.env = [(false, eval a X.env), (false, eval b X.env)] := by rfl) (hs2 : starEach [b] X.env = [(false, eval b X.env)] := by rfl) : WI X W tg (.Call (.Name "range" p) [a, b] [] pos) (iRng2 ta) (mRange2 m) := by
  refine ⟨pi_range2 hg hm ha.pe hs hs2, fun w G0 H0 σ env G H B Q R h => ?_⟩
  refine ha.sem w G0 H0 σ env G H B _ R (PostR.bind h fun ss B1 vs G1 H1 s1 o1 d1 h1 => ?_)
  split at h1
  · rename_i i j e
    have q := d1.un e
    match vs, q with
    | _, .cons di (.cons dj .nil) =>
      cases di; cases dj
      by_cases hc : -(2 ^ 62) ≤ i ∧ i < 2 ^ 62 ∧ -(2 ^ 62) ≤ j ∧ j < 2 ^ 62
      · rw [if_pos hc] at h1
        exact ⟨i, j, rfl, hc, h1 _ G1 H1 Step.refl o1 Walks.range⟩
      · rw [if_neg hc] at h1; exact h1.elim
  · exact h1.elim

/-! ### for -/
def mLoop (g : PD → EnvM → Option EnvM) (body : EnvM → Bag → SRes) : List PD → EnvM → Bag → SRes
  | [], env, B => .nx env B
  | d :: ds, env, B => match g d env with
    | none => .bad
    | some env1 => match body env1 B with
      | .nx env2 B2 => mLoop g body ds env2 B2
      | .ct env2 B2 => mLoop g body ds env2 B2
      | .bk env2 B2 => .nx env2 B2
      | .ret d B2 => .ret d B2
      | .exc c as B2 => .exc c as B2
      | .bad => .bad
def mFor (src : EnvM → Bag → Res (List PD)) (g : PD → EnvM → Option EnvM) (body : EnvM → Bag → SRes) : EnvM → Bag → SRes := fun env B => (src env B).s fun ds B1 => mLoop g body ds env B1
theorem sd_for {iter tg : Expr} {body : List Stmt} {wi : TI} {g : TG} {tb : TS} {mi : EnvM → Bag → Res (List PD)} {mg : PD → EnvM → Option EnvM} {js : List Nat} {mb : EnvM → Bag → SRes} {pos : Pos} (hp : PassesOwn (model X.prog X.w) X.A X.env X.xe) (hc : X.calm = true)
    (hi : WI X W tg iter wi mi) (hg : GT X tg g mg js) (hb : SDs X W body tb mb) (hs : ∀ x, foldedSetIterable iter X.env x = pure x := by intro _; rfl) : SD X W (.For tg iter body [] pos) (tFor wi g tb) (mFor mi mg mb) := by
  refine ⟨ps_for hp hc hi.pe hg.pg hb.pe hs, fun w G0 H0 σ env G H B D R h => ?_⟩
  refine hi.sem w G0 H0 σ env G H B _ R (PostS.bind (σ := σ) R.ent h fun ds B1 J G1 H1 s1 o1 wk h1 => ?_)
  have R1 := R.step s1 o1
  refine ⟨fun i m σ H => m = ds.length - i ∧ i ≤ ds.length ∧ ∃ env G' B, Rel X.K w G0 H0 σ env G' H B ∧ Sub G1 G' ∧ PostS X.K X.mg w G0 H0 G' W D (mLoop mg mb (ds.drop i) env B), ⟨ds.length, by simp, Nat.zero_le _, env, G1, B1, R1, Sub.refl _, PostS.sub s1.exG h1⟩, ?_⟩
  rintro i m σ2 H2 ⟨rfl, hi, env2, G2, B2, R2, e2, p2⟩
  by_cases hlt : i < ds.length
  · right
    have hd : ds[i]? = some ds[i] := by simp [hlt]
    refine ⟨wk.go i H2 _ (Sub.trans e2 R2.ok.sub) hd, fun σ' H' => ∃ env' G' B', Rel X.K w G0 H0 σ' env' G' H' B' ∧ Sub G1 G' ∧ PostS X.K X.mg w G0 H0 G' W D (mLoop mg mb (ds.drop (i + 1)) env' B'), fun σ' H' ⟨env', G', B', R', e', p'⟩ => ⟨ds.length - (i + 1), by omega, rfl, hlt, env', G', B', R', e', p'⟩, fun x H3 y => ?_⟩
    obtain ⟨G3, s3, o3, d3⟩ := wk.yld i w G2 H2 B2 x H3 _ R2.ok e2 hd y
    rw [List.drop_eq_getElem_cons hlt] at p2
    have p2 := PostS.sub s3.exG p2
    unfold mLoop at p2
    cases q : mg ds[i] env2 with
    | none => rw [q] at p2; exact p2.elim
    | some env3 =>
      rw [q] at p2
      refine hg.sem w G0 H0 σ2 env2 G3 H3 B2 x _ env3 _ (R2.step s3 o3) d3 q fun σ4 R4 _ => ?_
      refine hb.sem w G0 H0 σ4 env3 G3 H3 B2 _ R4 ?_
      cases z : mb env3 B2 with
      | nx env4 B4 => simp only [z] at p2; exact fun σ' G' H' R' s' => ⟨env4, G', B4, R', Sub.trans (Sub.trans e2 s3.exG) s', PostS.sub s' p2⟩
      | ct env4 B4 => simp only [z] at p2; exact fun σ' G' H' R' s' => ⟨env4, G', B4, R', Sub.trans (Sub.trans e2 s3.exG) s', PostS.sub s' p2⟩
      | bk env4 B4 => simp only [z] at p2; exact fun σ' G' H' R' s' => p2 σ' G' H' R' s'
      | ret d B4 => simp only [z] at p2; exact p2
      | exc c as B4 => simp only [z] at p2; exact p2
      | bad => simp only [z] at p2; exact p2.elim
  · left
    have e : i = ds.length := by omega
    subst e
    rw [List.drop_length] at p2
    exact ⟨wk.stop _ H2 (Sub.trans e2 R2.ok.sub) (Nat.le_refl _), p2 σ2 G2 H2 R2 (Sub.refl _)⟩

/-! ### while -/
def mWh (c : EnvM → Bag → Res Bool) (body : EnvM → Bag → SRes) : Nat → EnvM → Bag → SRes
  | 0, _, _ => .bad
  | n + 1, env, B => (c env B).s fun k B1 => if k = true then (match body env B1 with
      | .nx env2 B2 => mWh c body n env2 B2
      | .ct env2 B2 => mWh c body n env2 B2
      | .bk env2 B2 => .nx env2 B2
      | .ret d B2 => .ret d B2
      | .exc c as B2 => .exc c as B2
      | .bad => .bad) else .nx env B1
theorem mWh_more {c : EnvM → Bag → Res Bool} {body : EnvM → Bag → SRes} : ∀ (n : Nat) (env : EnvM) (B : Bag), mWh c body n env B ≠ .bad → mWh c body (n + 1) env B = mWh c body n env B
  | 0, _, _, h => absurd rfl h
  | n + 1, env, B, h => by
    rw [mWh] at h
    rw [mWh, mWh.eq_2 c body env B n]
    cases e : c env B with
    | ok k B1 =>
      rw [e] at h
      simp only [Res.s] at h ⊢
      by_cases hk : k = true
      · rw [if_pos hk] at h
        rw [if_pos hk, if_pos hk]
        cases z : body env B1 with
        | nx env2 B2 =>
          rw [z] at h
          exact mWh_more n env2 B2 h
        | ct env2 B2 =>
          rw [z] at h
          exact mWh_more n env2 B2 h
        | bk env2 B2 => rfl
        | ret d B2 => rfl
        | exc c as B2 => rfl
        | bad => rfl
      · rw [if_neg hk, if_neg hk]
    | exc c as B1 => rfl
    | bad => rfl
theorem mWh_le {c : EnvM → Bag → Res Bool} {body : EnvM → Bag → SRes} {n m : Nat} {env : EnvM} {B : Bag} (h : mWh c body n env B ≠ .bad) (hl : n ≤ m) : mWh c body m env B = mWh c body n env B := by
  induction hl with
  | refl => rfl
  | step _ ih => rw [mWh_more _ env B (by rw [ih]; exact h), ih]
open Classical in
noncomputable def mWhile (c : EnvM → Bag → Res Bool) (body : EnvM → Bag → SRes) : EnvM → Bag → SRes := fun env B => if h : ∃ n, mWh c body n env B ≠ .bad then mWh c body h.choose env B else .bad
theorem mWhile_at {c : EnvM → Bag → Res Bool} {body : EnvM → Bag → SRes} {n : Nat} {env : EnvM} {B : Bag} (h : mWh c body n env B ≠ .bad) : mWhile c body env B = mWh c body n env B := by
  have hx : ∃ n, mWh c body n env B ≠ .bad := ⟨n, h⟩
  unfold mWhile
  rw [dif_pos hx]
  rcases Nat.le_total n hx.choose with l | l
  · exact mWh_le h l
  · exact (mWh_le hx.choose_spec l).symm
theorem mWhile_of {c : EnvM → Bag → Res Bool} {body : EnvM → Bag → SRes} {env : EnvM} {B : Bag} (h : mWhile c body env B ≠ .bad) : ∃ n, mWh c body n env B ≠ .bad ∧ mWhile c body env B = mWh c body n env B := by
  unfold mWhile at h
  by_cases hx : ∃ n, mWh c body n env B ≠ .bad
  · exact ⟨hx.choose, hx.choose_spec, mWhile_at hx.choose_spec⟩
  · rw [dif_neg hx] at h; exact absurd rfl h
/-- one turn more -/
theorem mWhile_end {c : EnvM → Bag → Res Bool} {body : EnvM → Bag → SRes} {env : EnvM} {B B1 : Bag} (h : c env B = .ok false B1) : mWhile c body env B = .nx env B1 := by
  have e : mWh c body 1 env B = .nx env B1 := by
    rw [mWh, h]
    rfl
  rw [mWhile_at (n := 1) (by rw [e]; exact fun z => by cases z), e]
theorem mWhile_turn {c : EnvM → Bag → Res Bool} {body : EnvM → Bag → SRes} {env env2 : EnvM} {B B1 B2 : Bag} (h : c env B = .ok true B1) (hb : body env B1 = .nx env2 B2) (h2 : mWhile c body env2 B2 ≠ .bad) : mWhile c body env B = mWhile c body env2 B2 := by
  obtain ⟨n, h3, h4⟩ := mWhile_of h2
  have e : mWh c body (n + 1) env B = mWh c body n env2 B2 := by
    rw [mWh, h]
    simp only [Res.s, if_true, hb]
  rw [mWhile_at (n := n + 1) (by rw [e]; exact h3), e, h4]
theorem mWhile_ret {c : EnvM → Bag → Res Bool} {body : EnvM → Bag → SRes} {env : EnvM} {B B1 B2 : Bag} {d : PD} (h : c env B = .ok true B1) (hb : body env B1 = .ret d B2) : mWhile c body env B = .ret d B2 := by
  have e : mWh c body 1 env B = .ret d B2 := by
    rw [mWh, h]
    simp only [Res.s, if_true, hb]
  rw [mWhile_at (n := 1) (by rw [e]; exact fun z => by cases z), e]
theorem sd_while {c : Expr} {body : List Stmt} {tc : TT} {tb : TS} {mc : EnvM → Bag → Res Bool} {mb : EnvM → Bag → SRes} {pos : Pos} (hp : PassesOwn (model X.prog X.w) X.A X.env X.xe) (hc : TD X W c tc mc) (hb : SDs X W body tb mb) : SD X W (.While c body [] pos) (tWhile tc tb) (mWhile mc mb) := by
  refine ⟨ps_while hp hc.pe hb.pe, fun w G0 H0 σ env G H B D R h => ?_⟩
  have hn : mWhile mc mb env B ≠ .bad := fun e => by rw [e] at h; exact h
  obtain ⟨n, _, e⟩ := mWhile_of hn
  rw [e] at h
  refine ⟨fun m σ H => ∃ env G' B, Rel X.K w G0 H0 σ env G' H B ∧ PostS X.K X.mg w G0 H0 G' W D (mWh mc mb m env B), ⟨n, env, G, B, R, h⟩, ?_⟩
  rintro m σ2 H2 ⟨env2, G2, B2, R2, p2⟩
  cases m with
  | zero => exact (show False from p2).elim
  | succ m =>
    rw [mWh] at p2
    refine hc.sem w G0 H0 σ2 env2 G2 H2 B2 _ R2 (PostS.bind (σ := σ2) R2.ent p2 fun k B3 v G3 H3 s3 o3 d3 h3 => ?_)
    subst d3
    have h3 := PostS.sub s3.exG h3
    cases v with
    | false => exact iteF (h3 σ2 G3 H3 (R2.step s3 o3) (Sub.refl _))
    | true =>
      refine iteT ⟨fun σ' H' => ∃ env G' B, Rel X.K w G0 H0 σ' env G' H' B ∧ PostS X.K X.mg w G0 H0 G' W D (mWh mc mb m env B), fun σ' H' q => ⟨m, Nat.lt_succ_self m, q⟩, ?_⟩
      refine hb.sem w G0 H0 σ2 env2 G3 H3 B3 _ (R2.step s3 o3) ?_
      rw [if_pos rfl] at h3
      cases z : mb env2 B3 with
      | nx env4 B4 => simp only [z] at h3; exact fun σ' G' H' R' s' => ⟨env4, G', B4, R', PostS.sub s' h3⟩
      | ct env4 B4 => simp only [z] at h3; exact fun σ' G' H' R' s' => ⟨env4, G', B4, R', PostS.sub s' h3⟩
      | bk env4 B4 => simp only [z] at h3; exact fun σ' G' H' R' s' => h3 σ' G' H' R' s'
      | ret d B4 => simp only [z] at h3; exact h3
      | exc c as B4 => simp only [z] at h3; exact h3
      | bad => simp only [z] at h3; exact h3.elim
end
end DL
set_option Elab.async false
set_option linter.all false
set_option maxRecDepth 100000
set_option maxHeartbeats 2000000
/-! ZL: list(zip(a, b)) of two lists or of two tuples of one length: a new list of new pairs. -/
namespace ZL
open PySem
theorem zip_len0 : typeLookup (.type "zip") "__len__" = pure none := by rw [typeLookup_type, builtinLookup_eq_fast]; kernel_rfl
theorem zip_hint0 : typeLookup (.type "zip") "__length_hint__" = pure none := by rw [typeLookup_type, builtinLookup_eq_fast]; kernel_rfl
section
variable {prog : Program} {w : World} {A : Around} {E : Value → Shared → Prop} {s : Shared}
/-! ### next of a zip of tuples whose first pair is still out -/
theorem nextT {z TI TO T i1 i2 l1 l2 : Addr} {f : Bool} {oT : Obj} {k1 k2 : Nat} {xs ys : Array Value} {x y : Value} {Q : Option Value → Shared → Prop} (D : ZipApart z TI TO i1 i2 l1 l2)
    (hz : IsZipHeld s.heap z TI TO T f) (hT : s.heap.get? T = some oT) (hI : IsPair s.heap TI (.ref i1) (.ref i2)) (h1 : s.heap.IsTupleIter i1 l1 k1) (h2 : s.heap.IsTupleIter i2 l2 k2) (g1 : s.heap.IsTuple l1 xs) (g2 : s.heap.IsTuple l2 ys)
    (hx : xs[k1]? = some x) (hy : ys[k2]? = some y)
    (hQ : ∀ h', IsZipHeld h' z TI TO T true → h'.IsTupleIter i1 l1 (k1 + 1) ∧ h'.IsTupleIter i2 l2 (k2 + 1) → IsPair h' s.heap.objs.size x y → (∀ c o, c ≠ z ∧ c ≠ i1 ∧ c ≠ i2 → s.heap.get? c = some o → h'.get? c = some o) → Q (some (.ref s.heap.objs.size)) { s with heap := h' }) :
    wpAny (model prog w) A (pyNext (.ref z)) Q E s := by
  have ty : s.TypeIs (.ref z) "zip" := ⟨_, hz, rfl⟩
  have core : wpAny (model prog w) A.in1 (Builtin.«zip.__next__» ⟨[.ref z], []⟩) (fun fin s' => ∃ v, fin = .done (.ret v) ∧ Q (some v) s') (fun _ _ => False) s := by
    show wpAny _ _ (field (.ref z) 2 >>= _) _ _ _
    refine wpAny_bind (wpAny_field hz rfl (x := .bool false) rfl ?_); show wpAny _ _ (field (.ref z) 3 >>= _) _ _ _
    refine wpAny_bind (wpAny_field hz rfl (x := .ref TI) rfl ?_); refine wpAny_bind (wpAny_seqItems hI rfl ?_)
    show wpAny _ _ (Builtin.SmallTypes.ownedTupleIsFree (.ref z) >>= _) _ _ _
    refine wpAny_bind (wpAny_tupleHeld_zip hz hT fun ha za sa => ?_); simp only [Bool.false_eq_true, if_false]
    refine wpAny_bind ?_; rw [← Array.forIn_toList]; simp only [List.forIn_cons, List.forIn_nil]
    refine wpAny_bind (wpAny_bind (wpAny_holding ?_)); show wpAny _ _ (Builtin.SmallTypes.nextOf (.ref i1) >>= _) _ _ _
    refine wpAny_bind (RZ.nextOf_tuple_item (s := { s with heap := ha }) (h1.extBut sa.extBut D.i1z) (g1.extBut sa.extBut D.l1z) hx fun hb ib sb => wpAny_pure (wpAny_pure ?_))
    refine wpAny_bind (wpAny_bind (wpAny_holding ?_)); show wpAny _ _ (Builtin.SmallTypes.nextOf (.ref i2) >>= _) _ _ _
    refine wpAny_bind (RZ.nextOf_tuple_item (s := { s with heap := hb }) ((h2.extBut sa.extBut D.i2z).extBut sb.extBut D.i12.symm) ((g2.extBut sa.extBut D.l2z).extBut sb.extBut D.l2i1) hy fun hc ic sc => wpAny_pure (wpAny_pure (wpAny_pure ?_)))
    show wpAny _ _ (newTuple [x, y] >>= _) _ _ _
    refine wpAny_bind (wpAny_newTuple ?_)
    have es : hc.objs.size = s.heap.objs.size := by rw [sc.1, sb.1, sa.1]
    have zc : IsZipHeld hc z TI TO T true := sc.extBut _ _ D.i2z.symm (sb.extBut _ _ D.i1z.symm za)
    have kc : ∀ c o, c ≠ z ∧ c ≠ i1 ∧ c ≠ i2 → s.heap.get? c = some o → hc.get? c = some o := fun c o n e => sc.extBut _ _ n.2.2 (sb.extBut _ _ n.2.1 (sa.extBut _ _ n.1 e))
    have jc : hc.IsTupleIter i1 l1 (k1 + 1) := ib.extBut sc.extBut D.i12
    have hp : IsPair (hc.push { cls := .type "tuple", data := .seq #[x, y] }) hc.objs.size x y := Heap.get?_push_size _ rfl
    refine wpAny_pure ⟨_, rfl, ?_⟩
    show Q (some (.ref hc.objs.size)) _
    rw [es] at hp ⊢
    exact (hQ _ (Heap.get?_push_of_some _ zc) ⟨jc.at fun o e => Heap.get?_push_of_some _ e, ic.at fun o e => Heap.get?_push_of_some _ e⟩ hp fun c o n e => Heap.get?_push_of_some _ (kc c o n e))
  unfold pyNext
  exact wpAny_bind (wpAny_attempt (wpAny_callSpecial?_slot (name := Str.ofString "__next__") ty F.slot_zip_next (wpAny_call_entry F.slot_zip_next ty F.entry_zip_next (wpAny_mono core (fun fin s' ⟨v, h, q⟩ => ⟨v, h, wpAny_pure q⟩) fun _ _ q => q.elim) (F.args_zip_next_1 _))))
theorem endT {z TI TO T i1 i2 l1 l2 : Addr} {f : Bool} {oT : Obj} {k1 k2 : Nat} {xs ys : Array Value} {Q : Option Value → Shared → Prop} (hh : A.handled = none) (D : ZipApart z TI TO i1 i2 l1 l2)
    (hz : IsZipHeld s.heap z TI TO T f) (hT : s.heap.get? T = some oT) (hI : IsPair s.heap TI (.ref i1) (.ref i2)) (h1 : s.heap.IsTupleIter i1 l1 k1) (h2 : s.heap.IsTupleIter i2 l2 k2) (g1 : s.heap.IsTuple l1 xs) (g2 : s.heap.IsTuple l2 ys)
    (hx : xs[k1]? = none) (hQ : ∀ h', (∀ c o, c ≠ z ∧ c ≠ i1 ∧ c ≠ i2 → s.heap.get? c = some o → h'.get? c = some o) → Q none { s with heap := h' }) : wpAny (model prog w) A (pyNext (.ref z)) Q E s := by
  have ty : s.TypeIs (.ref z) "zip" := ⟨_, hz, rfl⟩
  have core : wpAny (model prog w) A.in1 (Builtin.«zip.__next__» ⟨[.ref z], []⟩) (fun fin s' => ∃ v, fin = .done (.ret v) ∧ False)
      (fun e s' => ∃ ea h', e = .ref ea ∧ s' = { s with heap := h' } ∧ (∀ c o, c ≠ z ∧ c ≠ i1 ∧ c ≠ i2 → s.heap.get? c = some o → h'.get? c = some o) ∧ ∃ o, h'.get? ea = some o ∧ o.cls = .type "StopIteration") s := by
    show wpAny _ _ (field (.ref z) 2 >>= _) _ _ _
    refine wpAny_bind (wpAny_field hz rfl (x := .bool false) rfl ?_); show wpAny _ _ (field (.ref z) 3 >>= _) _ _ _
    refine wpAny_bind (wpAny_field hz rfl (x := .ref TI) rfl ?_); refine wpAny_bind (wpAny_seqItems hI rfl ?_)
    show wpAny _ _ (Builtin.SmallTypes.ownedTupleIsFree (.ref z) >>= _) _ _ _
    refine wpAny_bind (wpAny_tupleHeld_zip hz hT fun ha za sa => ?_); simp only [Bool.false_eq_true, if_false]
    refine wpAny_bind ?_; rw [← Array.forIn_toList]; simp only [List.forIn_cons, List.forIn_nil]
    refine wpAny_bind (wpAny_bind (wpAny_holding ?_)); show wpAny _ _ (Builtin.SmallTypes.nextOf (.ref i1) >>= _) _ _ _
    refine wpAny_bind (RZ.nextOf_tuple_end (s := { s with heap := ha }) hh (h1.extBut sa.extBut D.i1z) (g1.extBut sa.extBut D.l1z) hx fun hb e sb he => ?_)
    exact ⟨e, hb, rfl, rfl, fun c o n q => sb _ _ n.2.1 (sa.extBut _ _ n.1 q), he⟩
  unfold pyNext
  refine wpAny_bind (wpAny_attempt (wpAny_callSpecial?_slot (name := Str.ofString "__next__") ty F.slot_zip_next (wpAny_call_entry F.slot_zip_next ty F.entry_zip_next (wpAny_mono core (fun fin s' ⟨v, h, q⟩ => q.elim) fun e s' q => ?_) (F.args_zip_next_1 _))))
  obtain ⟨ea, h', rfl, rfl, hk, o, ho, hc⟩ := q
  refine wpAny_bind (wpAny_isInstance (T := "StopIteration") (b := true) ⟨o, ho, hc⟩ isSubtype_stop ?_)
  exact wpAny_pure (hQ _ hk)
end

/-! ### the loop that fills the list -/
section
variable {prog : Program} {w : World} {A : Around} {R : Result → Shared → Prop}
theorem fill {I S : Addr} {n : Nat} (J : Nat → Heap → List Addr → Prop) (FP : List Addr) (hSF : S ∉ FP) (hn : n ≤ sizeLine) (res : Value)
    (keep : ∀ k h h' Ts, J k h Ts → (∀ b o, b ≠ S → h.get? b = some o → h'.get? b = some o) → J k h' Ts)
    (item : ∀ (k : Nat) (s : Shared) (Ts : List Addr) (Q : Option Value → Shared → Prop) (E : Value → Shared → Prop), k < n → J k s.heap Ts → (∃ o, s.heap.get? S = some o) → (∀ T h', J (k + 1) h' (Ts ++ [T]) → (∀ b o, b ∉ FP → s.heap.get? b = some o → h'.get? b = some o) → Q (some (.ref T)) { s with heap := h' }) →
      wpAny (model prog w) A.in1 (pyNext (.ref I)) Q E s)
    (done : ∀ (s : Shared) (Ts : List Addr) (Q : Option Value → Shared → Prop) (E : Value → Shared → Prop), J n s.heap Ts → (∀ h', (∀ b o, b ∉ FP → s.heap.get? b = some o → h'.get? b = some o) → Q none { s with heap := h' }) → wpAny (model prog w) A.in1 (pyNext (.ref I)) Q E s) :
    ∀ (k i : Nat) (s : Shared) (Ts : List Addr) (c : Nat), n - i = k → i ≤ n → Ts.length = i → J i s.heap Ts → s.heap.get? S = some { cls := .type "list", dict := none, data := .seq (Ts.map Value.ref).toArray c, slots := #[] } →
    (∀ h1 h' Ts' c', J n h1 Ts' → Ts'.length = n → (∀ b o, b ∉ FP → b ≠ S → s.heap.get? b = some o → h1.get? b = some o) → (∀ b o, b ∉ FP → h1.get? b = some o → h'.get? b = some o) → h'.get? S = some { cls := .type "list", dict := none, data := .seq (Ts'.map Value.ref).toArray c', slots := #[] } → R (.ok (.ret res)) { s with heap := h' }) →
    codeAny (model prog w) A (.builtin "list.extend.loop" ⟨[.ref S, .ref I, res], []⟩) R s := by
  intro k
  induction k with
  | zero =>
    intro i s Ts c hk hi hl hj hS hR
    have e : i = n := by omega
    subst e
    refine codeAny_builtin F.entry_extend_loop ?_
    rw [Around.under_plainId F.plain_extend_loop _]
    show wpAny _ A.in1 (pyNext (.ref I) >>= _) _ _ s
    refine wpAny_bind (done s Ts _ _ hj fun h' k' => ?_)
    exact wpAny_pure (hR s.heap h' Ts c hj hl (fun _ _ _ _ q => q) k' (k' S _ hSF hS))
  | succ k ih =>
    intro i s Ts c hk hi hl hj hS hR
    refine codeAny_builtin F.entry_extend_loop ?_
    rw [Around.under_plainId F.plain_extend_loop _]
    show wpAny _ A.in1 (pyNext (.ref I) >>= _) _ _ s
    refine wpAny_bind (item i s Ts _ _ (by omega) hj ⟨_, hS⟩ fun T h' j' k' => ?_)
    have hS' := k' S _ hSF hS
    show wpAny _ A.in1 (updateSeq S (·.push (.ref T)) >>= _) _ _ _
    refine wpAny_bind ?_
    have sz : (Ts.map Value.ref).toArray.size = i := by rw [List.size_toArray, List.length_map, hl]
    have ep : (Ts.map Value.ref).toArray.push (.ref T) = ((Ts ++ [T]).map Value.ref).toArray := by simp
    refine wpAny_updateSeq hS' rfl (wpAny_pure ⟨plainId_quiet F.plain_extend_loop _, ?_⟩) (by rw [sz]; omega) (by show ((Ts.map Value.ref).toArray.push (.ref T)).size ≤ sizeLine + 1; rw [Array.size_push, sz]; omega)
    have up : ∀ b o, b ≠ S → h'.get? b = some o → (h'.update S (Obj.mapSeq (·.push (.ref T)))).get? b = some o := fun b o hb q => (Heap.get?_update_other _ _ (Ne.symm hb)).trans q
    have hS2 : (h'.update S (Obj.mapSeq (·.push (.ref T)))).get? S = some _ := Heap.get?_update_self _ hS' rfl
    refine ih (i + 1) { s with heap := h'.update S (Obj.mapSeq (·.push (.ref T))) } (Ts ++ [T]) _ (by omega) (by omega) (by rw [List.length_append, hl]; rfl) (keep _ _ _ _ j' up) (by rw [← ep]; exact hS2) fun h1 h2 Ts' c' a1 a2 a3 a4 a5 => ?_
    exact hR h1 h2 Ts' c' a1 a2 (fun b o n1 n2 q => a3 b o n1 n2 (up b o n2 (k' b o n1 q))) a4 a5
end

/-! ### list(z) -/
section
variable {prog : Program} {w : World} {A : Around} {E : Value → Shared → Prop} {s : Shared}
theorem ZL_iter {z : Addr} {o : Obj} {Q : Value → Shared → Prop} (hz : s.heap.get? z = some o) (hc : o.cls = .type "zip") (h : Q (.ref z) s) : wpAny (model prog w) A (pyIter (.ref z)) Q E s := by
  have ty : s.TypeIs (.ref z) "zip" := ⟨o, hz, hc⟩
  refine wpAny_pyIter_slot ty F.slot_zip_iter (wpAny_call_entry F.slot_zip_iter ty F.entry_zip_iter ?_ (F.args_zip_iter_1 _))
  exact wpAny_pure ⟨_, rfl, "zip", _, ty, F.slot_zip_next.lookup, h⟩
end
section
variable {prog : Program} {w : World} {A : Around} {E : Value → Shared → Prop} {s : Shared}
theorem list_of {z : Addr} {n : Nat} {oz : Obj} {Q : Value → Shared → Prop} (J : Nat → Heap → List Addr → Prop) (FP : List Addr) (hn : n ≤ sizeLine) (hF : ∀ b ∈ FP, b < s.heap.objs.size) (hz : ∀ h Ts, J 0 h Ts → ∃ o, h.get? z = some o ∧ o.cls = .type "zip") (hzF : z ∈ FP)
    (keep : ∀ k h h' Ts, J k h Ts → (∀ b o, b ≠ s.heap.objs.size → h.get? b = some o → h'.get? b = some o) → J k h' Ts)
    (item : ∀ (k : Nat) (s' : Shared) (Ts : List Addr) (Q : Option Value → Shared → Prop) (E : Value → Shared → Prop), k < n → J k s'.heap Ts → (∃ o, s'.heap.get? s.heap.objs.size = some o) → (∀ T h', J (k + 1) h' (Ts ++ [T]) → (∀ b o, b ∉ FP → s'.heap.get? b = some o → h'.get? b = some o) → Q (some (.ref T)) { s' with heap := h' }) →
      wpAny (model prog w) A.in1.in1 (pyNext (.ref z)) Q E s')
    (done : ∀ (s' : Shared) (Ts : List Addr) (Q : Option Value → Shared → Prop) (E : Value → Shared → Prop), J n s'.heap Ts → (∀ h', (∀ b o, b ∉ FP → s'.heap.get? b = some o → h'.get? b = some o) → Q none { s' with heap := h' }) → wpAny (model prog w) A.in1.in1 (pyNext (.ref z)) Q E s')
    (hj : J 0 s.heap [])
    (hQ : ∀ h1 h' Ts c', J n h1 Ts → Ts.length = n → (∀ b o, b ∉ FP → s.heap.get? b = some o → h1.get? b = some o) → (∀ b o, b ∉ FP → h1.get? b = some o → h'.get? b = some o) → h'.get? s.heap.objs.size = some { cls := .type "list", dict := none, data := .seq (Ts.map Value.ref).toArray c', slots := #[] } → Q (.ref s.heap.objs.size) { s with heap := h' }) :
    wpAny (model prog w) A (call (.type "list") [.ref z]) Q E s := by
  have hSF : s.heap.objs.size ∉ FP := fun m => Nat.lt_irrefl _ (hF _ m)
  refine callType_codes (Q₁ := fun obj s₁ => obj = .ref s.heap.objs.size ∧ s₁ = { s with heap := s.heap.push { cls := .type "list", data := .seq #[] } }) F.called_list (F.typeCall_list_1 _) F.entry_list_init (code_list_new _ ⟨rfl, rfl⟩) fun obj s₁ h₁ => ?_
  obtain ⟨rfl, rfl⟩ := h₁
  have hS0 : (s.heap.push { cls := .type "list", data := .seq #[] }).get? s.heap.objs.size = some { cls := .type "list", data := .seq #[] } := Heap.get?_push_size _ rfl
  refine ⟨⟨_, hS0, rfl⟩, F.args_list_init_2 _ _, ?_⟩
  generalize hsv : s.heap.objs.size = S at *
  have old : ∀ b o, s.heap.get? b = some o → (s.heap.push { cls := .type "list", data := .seq #[] }).get? b = some o := fun b o q => Heap.get?_push_of_some _ q
  generalize hg0 : s.heap.push { cls := .type "list", data := .seq #[] } = g0 at *
  show wpAny _ _ (do let old ← Builtin.List.listItems (.ref S); Builtin.List.listUpdate (.ref S) (fun _ => #[]); letGo old.toList.reverse; Builtin.List.listExtendWith (.ref S) (.ref z) .none) _ _ _
  refine wpAny_bind ?_
  unfold Builtin.List.listItems
  refine wpAny_bind (wpAny_seqItems hS0 rfl (wpAny_pure ?_))
  show wpAny _ _ (updateSeq S (fun _ => #[]) >>= fun _ => letGo (#[] : Array Value).toList.reverse >>= fun _ => Builtin.List.listExtendWith (.ref S) (.ref z) .none) _ _ _
  refine wpAny_bind (wpAny_updateSeq hS0 rfl ?_)
  have hS1 := Heap.get?_update_self (Obj.mapSeq (fun _ => (#[] : Array Value))) hS0 rfl
  have o1 : ∀ b o, b ≠ S → g0.get? b = some o → (g0.update S (Obj.mapSeq (fun _ => (#[] : Array Value)))).get? b = some o := fun b o hb q => (Heap.get?_update_other _ _ (Ne.symm hb)).trans q
  generalize hg1 : g0.update S (Obj.mapSeq (fun _ => (#[] : Array Value))) = g1 at *
  refine wpAny_bind (wpAny_letGo ?_)
  have hj1 : J 0 g1 [] := keep 0 _ _ _ (keep 0 _ _ _ hj fun b o _ q => old b o q) o1
  have tz : ∀ tk, (⟨g1, s.gens, s.drawn, tk, s.os⟩ : Shared).TypeIs (.ref z) "zip" := fun tk => let ⟨o, h1, h2⟩ := hz g1 [] hj1; ⟨o, h1, h2⟩
  have nSz : S ≠ z := fun q => hSF (q ▸ hzF)
  have b1 : Builtin.List.listSameRef (.ref S) (.ref z) = false := by simp [Builtin.List.listSameRef, nSz]
  have b2 : (Value.type "zip" == Value.type "list") = false := by decide
  have b3 : (Value.type "zip" == Value.type "tuple") = false := by decide
  unfold Builtin.List.listExtendWith
  refine wpAny_bind (wpAny_typeOf (tz _) ?_)
  simp only [b1, b2, b3, Bool.or_false, Bool.false_eq_true, if_false]
  obtain ⟨oz', hoz, hcz⟩ := hz g1 [] hj1
  refine wpAny_bind ?_
  show wpAny _ _ (pyIter (.ref z)) _ _ _
  have iter : ∀ (Q' : Value → Shared → Prop) (E' : Value → Shared → Prop), Q' (.ref z) (⟨g1, s.gens, s.drawn, s.toks, s.os⟩ : Shared) → wpAny (model prog w) A.in1.in1 (pyIter (.ref z)) Q' E' (⟨g1, s.gens, s.drawn, s.toks, s.os⟩ : Shared) := by
    intro Q' E' q
    exact ZL_iter hoz hcz q
  refine iter _ _ ?_
  refine wpAny_bind (wpAny_holding ?_)
  unfold Builtin.List.listLengthHint
  refine wpAny_bind (wpAny_specialOf (tz _) zip_len0 ?_)
  show wpAny _ _ (specialOf (Value.ref z) (Str.ofString "__length_hint__") >>= _) _ _ _
  refine wpAny_bind (wpAny_specialOf (tz _) zip_hint0 (wpAny_pure ?_))
  show wpAny _ _ (rule "list.extend.makes-room" >>= fun _ => Builtin.List.listTouch (.ref S) >>= fun _ => again (.builtin "list.extend.loop" ⟨[.ref S, .ref z, .none], []⟩)) _ _ _
  refine wpAny_bind (wpAny_rule (wpAny_bind ?_))
  show wpAny _ _ (updateSeq S (·.push .none) >>= fun _ => updateSeq S (·.pop)) _ _ _
  refine wpAny_bind (wpAny_updateSeq hS1 rfl ?_)
  have hS2 := Heap.get?_update_self (Obj.mapSeq (·.push Value.none)) hS1 rfl
  refine wpAny_updateSeq (hz := by seq_fits) hS2 rfl ?_
  have hS3 := Heap.get?_update_self (Obj.mapSeq (·.pop)) hS2 rfl
  have o2 : ∀ b o, b ≠ S → g1.get? b = some o → ((g1.update S (Obj.mapSeq (·.push Value.none))).update S (Obj.mapSeq (·.pop))).get? b = some o := fun b o hb q => (Heap.get?_update_other _ _ (Ne.symm hb)).trans ((Heap.get?_update_other _ _ (Ne.symm hb)).trans q)
  refine wpAny_pure ⟨plainId_quiet F.plain_extend_loop _, fill (S := S) J FP hSF hn .none keep item done n 0 _ [] _ rfl (Nat.zero_le _) rfl (keep 0 _ _ _ hj1 o2) hS3 fun h1 h' Ts c' a1 a2 a3 a4 a5 => ?_⟩
  exact ⟨rfl, hQ h1 h' Ts c' a1 a2 (fun b o nb q => a3 b o nb (fun e => by subst e; subst hsv; exact absurd (Heap.lt_size q) (Nat.lt_irrefl _)) (o2 b o (fun e => by subst e; subst hsv; exact absurd (Heap.lt_size q) (Nat.lt_irrefl _)) (o1 b o (fun e => by subst e; subst hsv; exact absurd (Heap.lt_size q) (Nat.lt_irrefl _)) (old b o q)))) a4 a5⟩
end
/-! ### list(zip(a, b)) as an expression -/
section
open L2
/-- the pairs made so far, the zip's own state -/
def JZ (it2 : Heap → Nat → Prop) (src : Heap → Prop) (z TI TO i1 i2 S : Addr) (xs ys : Array Value) (k : Nat) (h : Heap) (Ts : List Addr) : Prop :=
  IsPair h TI (.ref i1) (.ref i2) ∧ it2 h k ∧ src h ∧ ((k = 0 ∧ IsZip h z TI TO .none ∧ ∃ a b, IsPair h TO a b) ∨ (0 < k ∧ ∃ f T oT, IsZipHeld h z TI TO T f ∧ h.get? T = some oT ∧ T ∉ [z, TO, i1, i2] ∧ T ≠ S)) ∧ Ts.length = k ∧
    ∀ (j : Nat) (T : Addr), Ts[j]? = some T → T ∉ [z, TO, i1, i2] ∧ T ≠ S ∧ z < T ∧ ∃ x y, xs[j]? = some x ∧ ys[j]? = some y ∧ IsPair h T x y
theorem get_snoc {α : Type} {l : List α} {a b : α} {j : Nat} (h : (l ++ [a])[j]? = some b) : (j < l.length ∧ l[j]? = some b) ∨ (j = l.length ∧ b = a) := by
  rw [List.getElem?_append] at h
  split at h
  · exact .inl ⟨by assumption, h⟩
  · rename_i q
    have q1 := (List.getElem?_eq_some_iff.mp h).1
    rw [List.length_singleton] at q1
    have q2 : j - l.length = 0 := by omega
    rw [q2] at h
    exact .inr ⟨by omega, by cases h; rfl⟩
structure Kit (prog : Program) (w : World) (A : Around) (z TI TO i1 i2 : Addr) (xs ys : Array Value) (it2 : Heap → Nat → Prop) (src : Heap → Prop) : Prop where
  itk : ∀ h h' k, it2 h k → (∀ o, h.get? i1 = some o → h'.get? i1 = some o) → (∀ o, h.get? i2 = some o → h'.get? i2 = some o) → it2 h' k
  srck : ∀ h h', src h → (∀ b o, b ∉ [z, TO, i1, i2] → b < z → h.get? b = some o → h'.get? b = some o) → src h'
  item0 : ∀ (s : Shared) (x y a b : Value) (Q : Option Value → Shared → Prop) (E : Value → Shared → Prop), IsZip s.heap z TI TO .none → IsPair s.heap TI (.ref i1) (.ref i2) → IsPair s.heap TO a b → it2 s.heap 0 → src s.heap → xs[0]? = some x → ys[0]? = some y →
    (∀ h', IsZip h' z TI TO (rawInt s.heap.objs.size) → it2 h' 1 → IsPair h' s.heap.objs.size x y → (∀ c o, c ≠ z → c ≠ TO → c ≠ i1 → c ≠ i2 → s.heap.get? c = some o → h'.get? c = some o) → Q (some (.ref s.heap.objs.size)) { s with heap := h' }) → wpAny (model prog w) A (pyNext (.ref z)) Q E s
  itemH : ∀ (s : Shared) (T : Addr) (f : Bool) (oT : Obj) (k : Nat) (x y : Value) (Q : Option Value → Shared → Prop) (E : Value → Shared → Prop), IsZipHeld s.heap z TI TO T f → s.heap.get? T = some oT → IsPair s.heap TI (.ref i1) (.ref i2) → it2 s.heap k → src s.heap → xs[k]? = some x → ys[k]? = some y →
    (∀ h', IsZipHeld h' z TI TO T true → it2 h' (k + 1) → IsPair h' s.heap.objs.size x y → (∀ c o, c ≠ z → c ≠ i1 → c ≠ i2 → s.heap.get? c = some o → h'.get? c = some o) → Q (some (.ref s.heap.objs.size)) { s with heap := h' }) → wpAny (model prog w) A (pyNext (.ref z)) Q E s
  end0 : ∀ (s : Shared) (a b : Value) (Q : Option Value → Shared → Prop) (E : Value → Shared → Prop), IsZip s.heap z TI TO .none → IsPair s.heap TI (.ref i1) (.ref i2) → IsPair s.heap TO a b → it2 s.heap 0 → src s.heap → xs[0]? = none → ys[0]? = none →
    (∀ h', (∀ c o, c ≠ z → c ≠ TO → c ≠ i1 → c ≠ i2 → s.heap.get? c = some o → h'.get? c = some o) → Q none { s with heap := h' }) → wpAny (model prog w) A (pyNext (.ref z)) Q E s
  endH : ∀ (s : Shared) (T : Addr) (f : Bool) (oT : Obj) (k : Nat) (Q : Option Value → Shared → Prop) (E : Value → Shared → Prop), IsZipHeld s.heap z TI TO T f → s.heap.get? T = some oT → IsPair s.heap TI (.ref i1) (.ref i2) → it2 s.heap k → src s.heap → xs[k]? = none → ys[k]? = none →
    (∀ h', (∀ c o, c ≠ z → c ≠ i1 → c ≠ i2 → s.heap.get? c = some o → h'.get? c = some o) → Q none { s with heap := h' }) → wpAny (model prog w) A (pyNext (.ref z)) Q E s
section
variable {prog : Program} {w : World} {A : Around} {E : Value → Shared → Prop} {s : Shared}
theorem list_zip {z TI TO i1 i2 : Addr} {xs ys : Array Value} {n : Nat} {it2 : Heap → Nat → Prop} {src : Heap → Prop} {Q : Value → Shared → Prop} (K : Kit prog w A.in1.in1 z TI TO i1 i2 xs ys it2 src) (hx : xs.size = n) (hy : ys.size = n) (hn : n ≤ sizeLine)
    (hz : IsZip s.heap z TI TO .none) (hI : IsPair s.heap TI (.ref i1) (.ref i2)) (hO : ∃ a b, IsPair s.heap TO a b) (hit : it2 s.heap 0) (hs : src s.heap) (l1 : i1 < s.heap.objs.size) (l2 : i2 < s.heap.objs.size) (nI : TI ∉ [z, TO, i1, i2])
    (hQ : ∀ (h' : Heap) (Ts : List Addr) (c' : Nat), Ts.length = n → (∀ b o, b ∉ [z, TO, i1, i2] → s.heap.get? b = some o → h'.get? b = some o) → (∀ (j : Nat) (T : Addr), Ts[j]? = some T → z < T ∧ ∃ x y, xs[j]? = some x ∧ ys[j]? = some y ∧ IsPair h' T x y) →
      h'.get? s.heap.objs.size = some { cls := .type "list", dict := none, data := .seq (Ts.map Value.ref).toArray c', slots := #[] } → Q (.ref s.heap.objs.size) { s with heap := h' }) :
    wpAny (model prog w) A (call (.type "list") [.ref z]) Q E s := by
  have lz := Heap.lt_size hz
  have lO : TO < s.heap.objs.size := let ⟨_, _, q⟩ := hO; Heap.lt_size q
  have lI := Heap.lt_size hI
  have nz : ∀ b ∈ [z, TO, i1, i2], b < s.heap.objs.size := fun b hb => by
    simp only [List.mem_cons, List.not_mem_nil, or_false] at hb
    rcases hb with rfl | rfl | rfl | rfl <;> assumption
  have nS : ∀ b ∈ [z, TO, i1, i2], b ≠ s.heap.objs.size := fun b hb e => absurd (nz b hb) (by rw [e]; exact Nat.lt_irrefl _)
  have get : ∀ (k : Nat), k < n → ∃ x y, xs[k]? = some x ∧ ys[k]? = some y := fun k hk => ⟨xs[k]'(by omega), ys[k]'(by omega), by simp, by simp⟩
  refine list_of (z := z) (n := n) (oz := { cls := .none, data := .fields #[] }) (JZ it2 src z TI TO i1 i2 s.heap.objs.size xs ys) [z, TO, i1, i2] hn nz (fun h Ts j => ?_) List.mem_cons_self (fun k h h' Ts j kp => ?_) (fun k s' Ts Q' E' hk j hS q => ?_) (fun s' Ts Q' E' j q => ?_)
    ⟨hI, hit, hs, .inl ⟨rfl, hz, hO⟩, rfl, fun j T e => by simp at e⟩ (fun h1 h' Ts c' j hl k1 k2 hS => ?_)
  · rcases j.2.2.2.1 with ⟨_, q, _⟩ | ⟨_, f, T, oT, q, _⟩
    · exact ⟨_, q, rfl⟩
    · exact ⟨_, q, rfl⟩
  · obtain ⟨j1, j2, j3, j4, j5, j6⟩ := j
    have k' : ∀ b o, b ∈ [z, TO, i1, i2] → h.get? b = some o → h'.get? b = some o := fun b o hb q => kp b o (nS b hb) q
    refine ⟨kp _ _ (Nat.ne_of_lt lI) j1, K.itk h h' k j2 (fun o q => k' i1 o (by simp) q) (fun o q => k' i2 o (by simp) q), K.srck h h' j3 (fun b o _ hb q => kp b o (Nat.ne_of_lt (Nat.lt_trans hb lz)) q), ?_, j5, fun j T e => ?_⟩
    · rcases j4 with ⟨e, q, a, b, q2⟩ | ⟨e, f, T, oT, q, q2, q3, q4⟩
      · exact .inl ⟨e, k' z _ (by simp) q, a, b, k' TO _ (by simp) q2⟩
      · exact .inr ⟨e, f, T, oT, k' z _ (by simp) q, kp T _ q4 q2, q3, q4⟩
    · obtain ⟨a1, a2, a3, x, y, a4, a5, a6⟩ := j6 j T e
      exact ⟨a1, a2, a3, x, y, a4, a5, kp T _ a2 a6⟩
  · obtain ⟨j1, j2, j3, j4, j5, j6⟩ := j
    obtain ⟨x, y, ex, ey⟩ := get k hk
    obtain ⟨oS, hS⟩ := hS
    have lS := Heap.lt_size hS
    have fresh : ∀ b ∈ [z, TO, i1, i2], s'.heap.objs.size ≠ b := fun b hb e => absurd (Nat.lt_trans (nz b hb) lS) (by rw [← e]; exact Nat.lt_irrefl _)
    have nT : s'.heap.objs.size ∉ [z, TO, i1, i2] := fun m => fresh _ m rfl
    have zT : z < s'.heap.objs.size := Nat.lt_trans lz lS
    have more : ∀ h' : Heap, (∀ b o, b ∉ [z, TO, i1, i2] → s'.heap.get? b = some o → h'.get? b = some o) → IsPair h' s'.heap.objs.size x y → ∀ (j : Nat) (T : Addr), (Ts ++ [s'.heap.objs.size])[j]? = some T → T ∉ [z, TO, i1, i2] ∧ T ≠ s.heap.objs.size ∧ z < T ∧ ∃ x y, xs[j]? = some x ∧ ys[j]? = some y ∧ IsPair h' T x y := fun h' kp hp j T e => by
      rcases get_snoc e with ⟨_, e⟩ | ⟨e1, e2⟩
      · obtain ⟨a1, a2, a3, x', y', a4, a5, a6⟩ := j6 j T e
        exact ⟨a1, a2, a3, x', y', a4, a5, kp T _ a1 a6⟩
      · subst e1 e2
        rw [j5]
        exact ⟨nT, Nat.ne_of_gt lS, zT, x, y, ex, ey, hp⟩
    rcases j4 with ⟨e, z0, a, b, hO'⟩ | ⟨e, f, T, oT, z1, hT, nT1, nT2⟩
    · subst e
      refine K.item0 s' x y a b Q' E' z0 j1 hO' j2 j3 ex ey fun h' z' it' hp kp => ?_
      have kp' : ∀ b o, b ∉ [z, TO, i1, i2] → s'.heap.get? b = some o → h'.get? b = some o := fun b o nb e => by
        simp only [List.mem_cons, List.not_mem_nil, or_false, not_or] at nb
        exact kp b o nb.1 nb.2.1 nb.2.2.1 nb.2.2.2 e
      exact q _ h' ⟨kp' _ _ nI j1, it', K.srck _ _ j3 fun b o nb _ e => kp' b o nb e, .inr ⟨Nat.zero_lt_one, false, _, _, z', hp, nT, Nat.ne_of_gt lS⟩, by rw [List.length_append, j5]; rfl, more h' kp' hp⟩ kp'
    · refine K.itemH s' T f oT k x y Q' E' z1 hT j1 j2 j3 ex ey fun h' z' it' hp kp => ?_
      have kp' : ∀ b o, b ∉ [z, TO, i1, i2] → s'.heap.get? b = some o → h'.get? b = some o := fun b o nb e => by
        simp only [List.mem_cons, List.not_mem_nil, or_false, not_or] at nb
        exact kp b o nb.1 nb.2.2.1 nb.2.2.2 e
      exact q _ h' ⟨kp' _ _ nI j1, it', K.srck _ _ j3 fun b o nb _ e => kp' b o nb e, .inr ⟨Nat.succ_pos k, true, T, oT, z', kp' T _ nT1 hT, nT1, nT2⟩, by rw [List.length_append, j5]; rfl, more h' kp' hp⟩ kp'
  · obtain ⟨j1, j2, j3, j4, j5, j6⟩ := j
    have ex : xs[n]? = none := by simp; omega
    have ey : ys[n]? = none := by simp; omega
    rcases j4 with ⟨e, z0, a, b, hO'⟩ | ⟨e, f, T, oT, z1, hT, nT1, nT2⟩
    · rw [e] at ex ey j2
      refine K.end0 s' a b Q' E' z0 j1 hO' j2 j3 ex ey fun h' kp => q h' fun b o nb e => ?_
      simp only [List.mem_cons, List.not_mem_nil, or_false, not_or] at nb
      exact kp b o nb.1 nb.2.1 nb.2.2.1 nb.2.2.2 e
    · refine K.endH s' T f oT n Q' E' z1 hT j1 j2 j3 ex ey fun h' kp => q h' fun b o nb e => ?_
      simp only [List.mem_cons, List.not_mem_nil, or_false, not_or] at nb
      exact kp b o nb.1 nb.2.2.1 nb.2.2.2 e
  · obtain ⟨j1, j2, j3, j4, j5, j6⟩ := j
    refine hQ h' Ts c' hl (fun b o nb e => k2 b o nb (k1 b o nb e)) (fun j T e => ?_) hS
    obtain ⟨a1, a2, a3, x, y, a4, a5, a6⟩ := j6 j T e
    exact ⟨a3, x, y, a4, a5, k2 T _ a1 a6⟩
theorem kitL {z TI TO i1 i2 l1 l2 : Addr} {xs ys : Array Value} (hh : A.handled = none) (D : ZipApart z TI TO i1 i2 l1 l2) (b1 : l1 < z) (b2 : l2 < z) : Kit prog w A z TI TO i1 i2 xs ys (fun h k => h.IsListIter i1 l1 k ∧ h.IsListIter i2 l2 k) (fun h => h.IsList l1 xs ∧ h.IsList l2 ys) where
  itk := fun h h' k q k1 k2 => ⟨q.1.at fun o e => k1 o e, q.2.at fun o e => k2 o e⟩
  srck := fun h h' q kp => by
    obtain ⟨⟨o1, e1, r1⟩, ⟨o2, e2, r2⟩⟩ := q
    exact ⟨⟨o1, kp l1 o1 (by simp [D.l1z, D.l1TO, D.l1i1, D.l1i2]) b1 e1, r1⟩, ⟨o2, kp l2 o2 (by simp [D.l2z, D.l2TO, D.l2i1, D.l2i2]) b2 e2, r2⟩⟩
  item0 := fun s x y a b Q E hz hI hO it sr ex ey q => wpAny_pyNext_zip_item D hz hI hO it.1 it.2 sr.1 sr.2 ex ey fun h' a1 a2 a3 a4 a5 a6 a7 => q h' a1 ⟨a3, a4⟩ a5 a7
  itemH := fun s T f oT k x y Q E hz hT hI it sr ex ey q => wpAny_pyNext_zip_item_held D hz hT hI it.1 it.2 sr.1 sr.2 ex ey fun h' a1 a2 a3 a4 a5 a6 => q h' a1 ⟨a2, a3⟩ a4 a6
  end0 := fun s a b Q E hz hI hO it sr ex ey q => wpAny_pyNext_zip_end hh D hz hI hO it.1 it.2 sr.1 sr.2 (.inl ex) q
  endH := fun s T f oT k Q E hz hT hI it sr ex ey q => wpAny_pyNext_zip_end_held hh D hz hT hI it.1 it.2 sr.1 sr.2 (.inl ex) q
theorem kitT {z TI TO i1 i2 l1 l2 : Addr} {xs ys : Array Value} (hh : A.handled = none) (D : ZipApart z TI TO i1 i2 l1 l2) (b1 : l1 < z) (b2 : l2 < z) : Kit prog w A z TI TO i1 i2 xs ys (fun h k => h.IsTupleIter i1 l1 k ∧ h.IsTupleIter i2 l2 k) (fun h => h.IsTuple l1 xs ∧ h.IsTuple l2 ys) where
  itk := fun h h' k q k1 k2 => ⟨q.1.at fun o e => k1 o e, q.2.at fun o e => k2 o e⟩
  srck := fun h h' q kp => by
    obtain ⟨⟨o1, e1, r1⟩, ⟨o2, e2, r2⟩⟩ := q
    exact ⟨⟨o1, kp l1 o1 (by simp [D.l1z, D.l1TO, D.l1i1, D.l1i2]) b1 e1, r1⟩, ⟨o2, kp l2 o2 (by simp [D.l2z, D.l2TO, D.l2i1, D.l2i2]) b2 e2, r2⟩⟩
  item0 := fun s x y a b Q E hz hI hO it sr ex ey q => RZ.pyNext_zipT_item D hz hI hO it.1 it.2 sr.1 sr.2 ex ey fun h' a1 a2 a3 a4 a5 a6 a7 => q h' a1 ⟨a3, a4⟩ a5 a7
  itemH := fun s T f oT k x y Q E hz hT hI it sr ex ey q => nextT D hz hT hI it.1 it.2 sr.1 sr.2 ex ey fun h' a1 a2 a3 a4 => q h' a1 a2 a3 fun c o c1 c2 c3 e => a4 c o ⟨c1, c2, c3⟩ e
  end0 := fun s a b Q E hz hI hO it sr ex ey q => RZ.pyNext_zipT_end hh D hz hI hO it.1 it.2 sr.1 sr.2 (.inl ex) q
  endH := fun s T f oT k Q E hz hT hI it sr ex ey q => endT hh D hz hT hI it.1 it.2 sr.1 sr.2 ex fun h' a => q h' fun c o n1 n2 n3 e => a c o ⟨n1, n2, n3⟩ e
end
end
/-! ### the rule -/
section
open L2 PyProof.Rows
theorem inv_many {X : Cx} {pins : List (Addr × Obj)} {σ : L2.St} {H H2 : Hp} {s : Shared} {h2 : Heap} {t : Nat} (I : Inv X pins σ H s) (k : ∀ b o, s.heap.get? b = some o → h2.get? b = some o) (e : ∀ a o, H a = some o → H2 a = some o)
    (n : ∀ a o, H2 a = some o → H a = some o ∨ s.heap.objs.size ≤ a) (ok : HOk X.prog X.w H2 h2) : Inv X pins σ H2 { s with heap := h2, toks := t } := by
  refine I.un ⟨fun b o q _ _ _ => k b o q, fun b o q _ _ _ => ⟨o.slots, k b o q⟩, fun b o q hn _ => ?_, fun b o q _ => ⟨o, k b o q⟩, fun b xs q => e b _ q, fun b o u q => e b _ q, fun b ps q => ⟨#[], by rw [e b _ q]; simp⟩⟩ ok
  cases z : H2 b with
  | none => rfl
  | some u =>
    rcases n b u z with q2 | q2
    · rw [hn] at q2; cases q2
    · exact absurd (Heap.lt_size q) (Nat.not_lt.mpr q2)
open Classical in
noncomputable def withPairs (H : Hp) (xs ys : List V) (Ts : List Addr) (l : Addr) : Hp := fun c => if c = l then some (.lst (Ts.map V.ref)) else if h : ∃ j : Nat, Ts[j]? = some c then some (.tup [xs.getD h.choose .non, ys.getD h.choose .non]) else H c
def tListZip (K : PySem.W.Frag) (ta : TA) : TE := fun σ H Q => ta σ H fun vs H1 => ∃ (a b : Addr) (xs ys : List V), vs = [.ref a, .ref b] ∧ ((SqL K H1 a xs ∧ SqL K H1 b ys) ∨ (SqT K H1 a xs ∧ SqT K H1 b ys)) ∧ xs.length = ys.length ∧
  ∀ (Ts : List Addr) (l : Addr) (H2 : Hp), Ts.length = xs.length → H1 l = none → (∀ T ∈ Ts, H1 T = none ∧ T ≠ l) → (∀ c o, H1 c = some o → H2 c = some o) → (∀ c o, H2 c = some o → H1 c = some o ∨ (H1 c = none ∧ (c = l ∨ c ∈ Ts))) → H2 l = some (.lst (Ts.map V.ref)) →
    (∀ (j : Nat) (T : Addr) (x y : V), Ts[j]? = some T → xs[j]? = some x → ys[j]? = some y → H2 T = some (.tup [x, y])) → Q (.ref l) H2
theorem lt_no {b n k : Nat} (h : b < n) (e : b = n + k) : False := by omega
theorem lt_no0 {b n : Nat} (h : b < n) (e : b = n) : False := by omega
theorem no_le {c n k : Nat} {T : Nat} (h : n + k < T) : n ≤ T := by omega
theorem ne5 {c n m : Nat} (h : m = n + 5) (l : ¬ n ≤ c) : c ≠ m := by omega
theorem le5 {n m : Nat} (h : m = n + 5) : n ≤ m := by omega
theorem vals_refs : ∀ Ts : List Addr, Vals (Ts.map V.ref) (Ts.map Value.ref)
  | [] => .nil
  | _ :: r => .cons rfl (vals_refs r)
theorem zip_end {X : Cx} {pins : List (Addr × Obj)} {σ : L2.St} {H1 : Hp} {s1 : Shared} {xs ys : List V} {its its2 : List Value} {h' h'' : Heap} {Q : VK} (I1 : Inv X pins σ H1 s1) (rv : Vals xs its) (rv2 : Vals ys its2) (hl : xs.length = ys.length) (hz : xs.length ≤ sizeLine)
    (hsz : h'.objs.size = s1.heap.objs.size + 5) (hk : ∀ c o, s1.heap.get? c = some o → h'.get? c = some o)
    (q : ∀ (Ts : List Addr) (l : Addr) (H2 : Hp), Ts.length = xs.length → H1 l = none → (∀ T ∈ Ts, H1 T = none ∧ T ≠ l) → (∀ c o, H1 c = some o → H2 c = some o) → (∀ c o, H2 c = some o → H1 c = some o ∨ (H1 c = none ∧ (c = l ∨ c ∈ Ts))) → H2 l = some (.lst (Ts.map V.ref)) →
      (∀ (j : Nat) (T : Addr) (x y : V), Ts[j]? = some T → xs[j]? = some x → ys[j]? = some y → H2 T = some (.tup [x, y])) → Q (.ref l) H2)
    {Ts : List Addr} {c' : Nat} (tl : Ts.length = xs.length) (kp : ∀ b o, b ∉ [s1.heap.objs.size + 4, s1.heap.objs.size + 3, s1.heap.objs.size, s1.heap.objs.size + 1] → h'.get? b = some o → h''.get? b = some o)
    (tp : ∀ (j : Nat) (T : Addr), Ts[j]? = some T → s1.heap.objs.size + 4 < T ∧ ∃ x y, its.toArray[j]? = some x ∧ its2.toArray[j]? = some y ∧ IsPair h'' T x y)
    (hS : h''.get? h'.objs.size = some { cls := .type "list", dict := none, data := .seq (Ts.map Value.ref).toArray c', slots := #[] }) : EP X pins σ Q (.ref h'.objs.size) { s1 with heap := h'' } := by
  have big : ∀ c, s1.heap.objs.size ≤ c → H1 c = none := fun c hc => I1.hok.fresh hc
  have kall : ∀ b o, s1.heap.get? b = some o → h''.get? b = some o := fun b o e => by
    have lb := Heap.lt_size e
    refine kp b o (fun m => ?_) (hk b o e)
    simp only [List.mem_cons, List.not_mem_nil, or_false] at m
    rcases m with m | m | m | m
    · exact lt_no lb m
    · exact lt_no lb m
    · exact lt_no0 lb m
    · exact lt_no lb m
  have nTl : ∀ (j : Nat) (T : Addr), Ts[j]? = some T → T ≠ h'.objs.size := fun j T e z => by
    obtain ⟨_, x, y, _, _, hp⟩ := tp j T e
    have hc : (Value.type "tuple" : Value) = Value.type "list" := congrArg Obj.cls (Option.some.inj (hp.symm.trans (z ▸ hS)))
    exact absurd hc (by decide +kernel)
  have mem : ∀ T ∈ Ts, ∃ j : Nat, Ts[j]? = some T := fun T m => List.mem_iff_getElem?.mp m
  have at_ : ∀ (j : Nat) (T : Addr), Ts[j]? = some T → ∃ x y u v, xs[j]? = some x ∧ ys[j]? = some y ∧ its[j]? = some u ∧ its2[j]? = some v ∧ RelV x u ∧ RelV y v ∧ IsPair h'' T u v := fun j T e => by
    obtain ⟨_, u, v, e1, e2, hp⟩ := tp j T e
    have jl : j < xs.length := by rw [← tl]; exact (List.getElem?_eq_some_iff.mp e).1
    have hx : xs[j]? = some xs[j] := by simp [jl]
    have hy : ys[j]? = some ys[j] := by simp [hl ▸ jl]
    obtain ⟨u', a1, a2⟩ := rv.get hx
    obtain ⟨v', b1, b2⟩ := rv2.get hy
    have e1 : its[j]? = some u := by simpa using e1
    have e2 : its2[j]? = some v := by simpa using e2
    rw [a1] at e1; cases e1
    rw [b1] at e2; cases e2
    exact ⟨_, _, _, _, hx, hy, a1, b1, a2, b2, hp⟩
  -- what stands at a pair's place
  have pairAt : ∀ (j : Nat) (T : Addr) (x y : V), Ts[j]? = some T → xs[j]? = some x → ys[j]? = some y → withPairs H1 xs ys Ts h'.objs.size T = some (.tup [x, y]) := fun j T x y e hx hy => by
    unfold withPairs
    rw [if_neg (nTl j T e)]
    have ex : ∃ j : Nat, Ts[j]? = some T := ⟨j, e⟩
    rw [dif_pos ex]
    obtain ⟨x1, y1, u1, v1, p1, p2, p3, p4, p5, p6, p7⟩ := at_ _ T ex.choose_spec
    obtain ⟨x2, y2, u2, v2, q1, q2, q3, q4, q5, q6, q7⟩ := at_ j T e
    rw [q1] at hx; cases hx
    rw [q2] at hy; cases hy
    have z := p7.symm.trans q7
    cases z
    have ex1 := RelV.inj p5 q5
    have ex2 := RelV.inj p6 q6
    rw [List.getD_eq_getElem?_getD, List.getD_eq_getElem?_getD, p1, p2, ex1, ex2]
    rfl
  have here : withPairs H1 xs ys Ts h'.objs.size h'.objs.size = some (.lst (Ts.map V.ref)) := by
    unfold withPairs
    rw [if_pos rfl]
  have old : ∀ c o, H1 c = some o → withPairs H1 xs ys Ts h'.objs.size c = some o := fun c o e => by
    have nc : ¬ s1.heap.objs.size ≤ c := fun hc => by rw [big c hc] at e; cases e
    unfold withPairs
    rw [if_neg (ne5 hsz nc), dif_neg (fun ⟨j, hj⟩ => nc (no_le (c := c) (tp j c hj).1))]
    exact e
  have new : ∀ c o, withPairs H1 xs ys Ts h'.objs.size c = some o → H1 c = some o ∨ (H1 c = none ∧ (c = h'.objs.size ∨ c ∈ Ts)) := fun c o e => by
    unfold withPairs at e
    by_cases h1 : c = h'.objs.size
    · exact .inr ⟨big c (by rw [h1]; exact le5 hsz), .inl h1⟩
    · rw [if_neg h1] at e
      by_cases h2 : ∃ j : Nat, Ts[j]? = some c
      · obtain ⟨j, hj⟩ := h2
        exact .inr ⟨big c (no_le (c := c) (tp j c hj).1), .inr (List.mem_iff_getElem?.mpr ⟨j, hj⟩)⟩
      · rw [dif_neg h2] at e
        exact .inl e
  have ok : HOk X.prog X.w (withPairs H1 xs ys Ts h'.objs.size) h'' := fun a o e => by
    rcases new a o e with q1 | ⟨q1, q2⟩
    · exact (I1.hok a o q1).stay (fun b u _ q => kall b u q) (fun b q => old b _ q) fun b zs q => old b _ q
    · rcases q2 with q2 | q2
      · subst q2
        rw [here] at e; cases e
        exact ⟨by rw [List.length_map, tl]; exact hz, _, c', vals_refs Ts, hS⟩
      · obtain ⟨j, hj⟩ := mem a q2
        obtain ⟨x, y, u, v, p1, p2, p3, p4, p5, p6, p7⟩ := at_ j a hj
        rw [pairAt j a x y hj p1 p2] at e; cases e
        exact ⟨by show 2 ≤ sizeLine; decide, [u, v], .cons p5 (.cons p6 .nil), ⟨_, p7, rfl, 0, rfl⟩⟩
  refine ⟨.ref h'.objs.size, withPairs H1 xs ys Ts h'.objs.size, inv_many (t := s1.toks) I1 kall old (fun a o e => ?_) ok, rfl, q Ts _ _ tl (big _ (le5 hsz)) (fun T m => ?_) old new here pairAt⟩
  · rcases new a o e with q1 | ⟨q1, q2⟩
    · exact .inl q1
    · right
      rcases q2 with q2 | q2
      · rw [q2]; exact le5 hsz
      · obtain ⟨j, hj⟩ := mem a q2
        exact no_le (c := a) (tp j a hj).1
  · obtain ⟨j, hj⟩ := mem T m
    exact ⟨big T (no_le (c := T) (tp j T hj).1), nTl j T hj⟩
theorem pe_listZip {X : Cx} {e e2 : Expr} {ta : TA} {p0 p pos pos0 : Pos} (hc : X.calm = true) (hm0 : X.mg "list" = none) (hm : X.mg "zip" = none) (ha : PA X [e, e2] ta) (hg0 : Gl X "list" := by rfl) (hg : Gl X "zip" := by rfl)
    (hs0 : starEach [.Call (.Name "zip" p) [e, e2] [] pos] X.env = (false, eval (.Call (.Name "zip" p) [e, e2] [] pos) X.env) :: starEach [] X.env := by rfl)
    (hs : starEach [e, e2] X.env = (false, eval e X.env) :: starEach [e2] X.env := by rfl) (hpl : (backTo pos (starEach [e2] X.env)).any (·.1) = false := by rfl) :
    PE X (.Call (.Name "list" p0) [.Call (.Name "zip" p) [e, e2] [] pos] [] pos0) (tListZip X.K ta) := by
  refine ⟨fun pins s σ H Q I h => ?_⟩
  refine wpAny_Call_Name_kw (ld_blt I hg0 hm0 (show bootBuiltins ("list" : Str) = some (.type "list") by decide +kernel) (PyProof.Rows.callWith_type1 ?_ hs0 (by rfl)))
  rw [hs0]
  show wpAny _ _ (spliced ((false, eval (.Call (.Name "zip" p) [e, e2] [] pos) X.env) :: backTo pos0 (starEach [] X.env))) _ _ s
  refine Calls.spliced_cons (Call_ (ld_blt I hg hm PyProof.Rows.boot_zip (PyProof.Rows.callWith_type1 (thn (ha.run pos pins s σ H _ I h) fun us s1 ⟨vs, H1, I1, r1, q1⟩ => ?_) hs hpl)))
  obtain ⟨a, b, xs, ys, ex, hq, hl, q⟩ := q1
  subst ex
  have hh : X.A.in1.in1.handled = none := I.ok.hd hc
  cases r1 with
  | cons r rr =>
    cases rr with
    | cons r' rr =>
      cases rr
      cases r
      cases r'
      rcases hq with ⟨hx, hy⟩ | ⟨hx, hy⟩
      · obtain ⟨its, rv, p1, z1⟩ := I1.list hx
        obtain ⟨its2, rv2, p2, z2⟩ := I1.list hy
        have e1 := rv.length
        have e2' := rv2.length
        refine call_zip_2 p1.isList p2.isList fun h' hz hTI hTO h1 h2 hsz hk => Calls.spliced_nil ?_
        have la : a < s1.heap.objs.size := p1.lt
        have lb : b < s1.heap.objs.size := p2.lt
        refine list_zip (s := { s1 with heap := h' }) (xs := its.toArray) (ys := its2.toArray) (n := xs.length) (kitL hh (PySem.W.ktu_apart s1.heap.objs.size a b p1.lt p2.lt) (Nat.lt_of_lt_of_le la (Nat.le_add_right _ _)) (Nat.lt_of_lt_of_le lb (Nat.le_add_right _ _))) (by rw [List.size_toArray]; omega) (by rw [List.size_toArray]; omega) z1 hz hTI ⟨_, _, hTO⟩ ⟨h1, h2⟩ ⟨?_, ?_⟩ (by show s1.heap.objs.size < h'.objs.size; omega) (by show s1.heap.objs.size + 1 < h'.objs.size; omega) ?_ fun h'' Ts c' tl kp tp hS => zip_end (s1 := s1) I1 rv rv2 hl z1 hsz hk q tl kp tp hS
        · obtain ⟨o, ho, r⟩ := p1.isList
          exact ⟨o, hk _ _ ho, r⟩
        · obtain ⟨o, ho, r⟩ := p2.isList
          exact ⟨o, hk _ _ ho, r⟩
        · simp only [List.mem_cons, List.not_mem_nil, or_false, not_or]
          refine ⟨?_, ?_, ?_, ?_⟩ <;> (intro z; have z : (_ : Nat) = _ := z; omega)
      · obtain ⟨its, rv, p1, z1⟩ := I1.tuple hx
        obtain ⟨its2, rv2, p2, z2⟩ := I1.tuple hy
        have e1 := rv.length
        have e2' := rv2.length
        obtain ⟨o1, ho1, r1⟩ := id p1
        obtain ⟨o2, ho2, r2⟩ := id p2
        have la : a < s1.heap.objs.size := Heap.lt_size ho1
        have lb : b < s1.heap.objs.size := Heap.lt_size ho2
        refine RZ.call_zipT (show s1.heap.IsTuple a its.toArray from p1) (show s1.heap.IsTuple b its2.toArray from p2) fun h' hz hTI hTO h1 h2 hsz hk => Calls.spliced_nil ?_
        refine list_zip (s := { s1 with heap := h' }) (xs := its.toArray) (ys := its2.toArray) (n := xs.length) (kitT hh (PySem.W.ktu_apart s1.heap.objs.size a b la lb) (Nat.lt_of_lt_of_le la (Nat.le_add_right _ _)) (Nat.lt_of_lt_of_le lb (Nat.le_add_right _ _))) (by rw [List.size_toArray]; omega) (by rw [List.size_toArray]; omega) z1 hz hTI ⟨_, _, hTO⟩ ⟨h1, h2⟩ ⟨⟨o1, hk _ _ ho1, r1⟩, ⟨o2, hk _ _ ho2, r2⟩⟩ (by show s1.heap.objs.size < h'.objs.size; omega) (by show s1.heap.objs.size + 1 < h'.objs.size; omega) ?_ fun h'' Ts c' tl kp tp hS => zip_end (s1 := s1) I1 rv rv2 hl z1 hsz hk q tl kp tp hS
        simp only [List.mem_cons, List.not_mem_nil, or_false, not_or]
        refine ⟨?_, ?_, ?_, ?_⟩ <;> (intro z; have z : (_ : Nat) = _ := z; omega)
end
end ZL
set_option Elab.async false
set_option linter.all false
set_option maxRecDepth 100000
set_option maxHeartbeats 2000000
/-! DL4: the bag, lists of one's own, isinstance, comprehensions, defs. -/
namespace DL
open PySem L2
section
variable {X : Cx} {W : WX}
/-! ### the bag's cells -/
def bagIx (B : Bag) : Nat → Option PD
  | 0 => some (.int (B.s0 : Int))
  | 1 => some (.int (B.s1 : Int))
  | 2 => some (.int (B.s2 : Int))
  | 3 => some (.list (B.cells.map fun n : Nat => PyData.int (n : Int)))
  | _ => none
def mBagIx (i k : Nat) : EnvM → Bag → Res PD := fun env B => match env[i]? with
  | some (some .bag) => (match bagIx B k with
    | some d => .ok d B
    | none => .bad)
  | _ => .bad
theorem DRs.nats {K : Fg} {G : Hp} : ∀ ns : List Nat, DRs K G (ns.map fun n : Nat => V.int (n : Int)) (ns.map fun n : Nat => PyData.int (n : Int))
  | [] => .nil
  | n :: r => .cons (.int _) (DRs.nats r)
theorem ed_bag (i k : Nat) {x : Str} {j : Nat} {p1 p2 pos : Pos} (hN : X.N[i]? = some x := by rfl) (hv : Vis X.env.scope x := by first | exact Or.inl rfl | exact Or.inr (Or.inl rfl) | exact Or.inr (Or.inr rfl)) (hd : (x == ("__debug__" : Str)) = false := by decide)
    (hcd : (x == ("__classdict__" : Str)) = false := by decide) : ED X W (.Subscript (.Name x p1) (.Constant (.int (k : Int)) j p2) pos) (tOp (rIxL X.K) (tVar i) (tC (.int (k : Int)))) (mBagIx i k) := by
  refine ⟨pe_ix ix_list (pe_var hN hv hd hcd) pe_int (fun _ _ => rfl), fun w G0 H0 σ env G H B Q R h => ?_⟩
  unfold mBagIx at h
  split at h
  · rename_i q
    obtain ⟨v, h1, b, l, hw, hv⟩ := R.slot i _ q
    subst hv
    obtain ⟨a1, a2, a3⟩ := R.ok.bag b l hw
    have gl := R.ok.gl b l hw
    have go : ∀ (v : V) (d : PD), ([V.int (B.s0 : Int), .int (B.s1 : Int), .int (B.s2 : Int), .ref l] : List V)[k]? = some v → bagIx B k = some d → DR X.K G v d → tOp (rIxL X.K) (tVar i) (tC (.int (k : Int))) σ H Q := fun v d e1 e2 dr => by
      rw [e2] at h
      exact ⟨_, h1, b, _, (k : Int), v, rfl, rfl, SqL.of a1, atI_nat e1, h v G H Step.refl R.ok dr⟩
    match k with
    | 0 => exact go _ _ rfl rfl (.int _)
    | 1 => exact go _ _ rfl rfl (.int _)
    | 2 => exact go _ _ rfl rfl (.int _)
    | 3 => exact go _ _ rfl rfl (.lst gl (DRs.nats _))
    | k + 4 => exact (show False from h).elim
  · exact h.elim
def bagSet (B : Bag) (k v : Nat) : Option Bag := match k with
  | 0 => some { B with s0 := v }
  | 1 => some { B with s1 := v }
  | 2 => some { B with s2 := v }
  | _ => none
/-- the slots when the bag changes -/
theorem Rel.bag {K : Fg} {w : Wd} {G0 H0 : Hp} {σ : L2.St} {env : EnvM} {G H : Hp} {B B' : Bag} (R : Rel K w G0 H0 σ env G H B) {b l : Addr} (hw : w = some (b, l)) (hc : B'.cells = B.cells) :
    Rel K w G0 H0 σ env G (upd H b (.lst [.int (B'.s0 : Int), .int (B'.s1 : Int), .int (B'.s2 : Int), .ref l])) B' := by
  obtain ⟨a1, a2, a3⟩ := R.ok.bag b l hw
  have nG : ∀ c o, G c = some o → c ≠ b := fun c o e z => by
    rw [z, R.ok.gb b l hw] at e; cases e
  have nK : ∀ c, Nb1 w c → c ≠ b := fun c n z => n b l hw z.symm
  refine ⟨⟨fun c o e => by rw [upd_ne (nG c o e)]; exact R.ok.sub c o e, fun b' l' e => ?_, R.ok.gb, fun b' l' e => by rw [hc]; exact R.ok.gl b' l' e⟩, ⟨R.ent.exG, R.ent.fr, fun c o n e => by rw [upd_ne (nK c n)]; exact R.ent.keep c o n e, fun c o e => ?_⟩, R.len, fun i sv e => ?_, R.dist⟩
  · rw [hw] at e
    cases e
    exact ⟨upd_same, a2, by rw [upd_ne a2, hc]; exact a3⟩
  · by_cases hcb : c = b
    · subst hcb; exact ⟨_, upd_same⟩
    · rw [upd_ne hcb]; exact R.ent.there c o e
  · obtain ⟨v, h1, h2⟩ := R.slot i sv e
    refine ⟨v, h1, ?_⟩
    cases sv with
    | d x => exact h2
    | own xs =>
      obtain ⟨p, vs, e1, g, h0, hn, hp, r⟩ := h2
      exact ⟨p, vs, e1, g, h0, hn, by rw [upd_ne (nK p hn.one)]; exact hp, r⟩
    | bag => exact h2
def mBagSet (i k : Nat) (m : EnvM → Bag → Res PD) : EnvM → Bag → SRes := fun env B => (m env B).s fun d B1 => match env[i]?, d with
  | some (some .bag), .int v => if 0 ≤ v then (match bagSet B1 k v.toNat with
    | some B2 => .nx env B2
    | none => .bad) else .bad
  | _, _ => .bad
theorem bag_put {K : Fg} {w : Wd} {G0 H0 : Hp} {σ : L2.St} {env : EnvM} {G H : Hp} {B B2 : Bag} {k v : Nat} {Q : Hp → Prop} {b l : Addr} (R : Rel K w G0 H0 σ env G H B) (hw : w = some (b, l)) (e : bagSet B k v = some B2) (q : ∀ H', Rel K w G0 H0 σ env G H' B2 → Q H') : rSetL (.ref b) (.int (k : Int)) (.int (v : Int)) H Q := by
  obtain ⟨a1, a2, a3⟩ := R.ok.bag b l hw
  match k, e with
  | 0, e => cases e; exact ⟨b, _, 0, 0, rfl, rfl, a1, rfl, q _ (R.bag (B' := { B with s0 := v }) hw rfl)⟩
  | 1, e => cases e; exact ⟨b, _, 1, 1, rfl, rfl, a1, rfl, q _ (R.bag (B' := { B with s1 := v }) hw rfl)⟩
  | 2, e => cases e; exact ⟨b, _, 2, 2, rfl, rfl, a1, rfl, q _ (R.bag (B' := { B with s2 := v }) hw rfl)⟩
  | k + 3, e => cases e
theorem sd_bagSet (i k : Nat) {x : Str} {j : Nat} {e : Expr} {t : TE} {m : EnvM → Bag → Res PD} {p1 p2 p3 pos : Pos} (he : ED X W e t m) (hN : X.N[i]? = some x := by rfl) (hv : Vis X.env.scope x := by first | exact Or.inl rfl | exact Or.inr (Or.inl rfl) | exact Or.inr (Or.inr rfl))
    (hd : (x == ("__debug__" : Str)) = false := by decide) (hcd : (x == ("__classdict__" : Str)) = false := by decide)
    (hs : swapsWithSole [.Subscript (.Name x p1) (.Constant (.int (k : Int)) j p2) p3] e pos.line X.env = pure false := by rfl) (hw : swappedStores [.Subscript (.Name x p1) (.Constant (.int (k : Int)) j p2) p3] e X.env = pure none := by rfl)
    (h1 : (assignEach [.Subscript (.Name x p1) (.Constant (.int (k : Int)) j p2) p3] X.env).map (·.2) = [assign (.Subscript (.Name x p1) (.Constant (.int (k : Int)) j p2) p3) X.env] := by rfl) :
    SD X W (.Assign [.Subscript (.Name x p1) (.Constant (.int (k : Int)) j p2) p3] e pos) (tAsg t (gSub (tVar i) (tC (.int (k : Int))) rSetL)) (mBagSet i k m) := by
  refine ⟨ps_asg he.pe (pg_sub (pe_var hN hv hd hcd) pe_int set_list) hs hw h1, fun w G0 H0 σ env G H B D R h => ?_⟩
  refine he.sem w G0 H0 σ env G H B _ R (PostS.bind (σ := σ) R.ent h fun d B1 v G1 H1 s1 o1 d1 h1 => ?_)
  have R1 := R.step s1 o1
  split at h1
  · rename_i z q
    obtain ⟨v', g1, b, l, hw, hv⟩ := R1.slot i _ q
    subst hv
    have e1 := d1.int_inv
    subst e1
    by_cases hz : 0 ≤ z
    · rw [if_pos hz] at h1
      cases e2 : bagSet B1 k z.toNat with
      | none => rw [e2] at h1; exact h1.elim
      | some B2 =>
        rw [e2] at h1
        have ez : ((z.toNat : Nat) : Int) = z := Int.toNat_of_nonneg hz
        refine ⟨_, g1, ?_⟩
        rw [← ez]
        exact bag_put R1 hw e2 fun H' R' => h1 σ G1 H' R' s1.exG
    · rw [if_neg hz] at h1; exact h1.elim
  · exact h1.elim
/-- bag[k] += n -/
theorem get_bag : PGet X (fun x y H Q => ∃ (p : Addr) (xs : List V) (k : Nat) (v : V), x = .ref p ∧ y = .int (k : Int) ∧ H p = some (.lst xs) ∧ xs[k]? = some v ∧ Q v H) := by
  intro pins s σ H o i ov iv Q I ro ri h
  obtain ⟨p, xs, k, v, rfl, rfl, hp, hx, q⟩ := h
  cases ro
  obtain ⟨t, rfl⟩ := ri
  obtain ⟨its, r, pl, hz⟩ := I.list (SqL.of hp)
  obtain ⟨u, hu, ru⟩ := r.get hx
  have hk : k < xs.length := (List.getElem?_eq_some_iff.mp hx).1
  have hn := line63
  exact wpAny_getItem_list pl.isList (by omega) (by omega) (by simpa using hu) ⟨v, H, I, ru, q⟩
def mBagAug (i k n : Nat) : EnvM → Bag → SRes := fun env B => match env[i]? with
  | some (some .bag) => (match bagIx B k with
    | some (.int v) => (match bagSet B k (v.toNat + n) with
      | some B2 => .nx env B2
      | none => .bad)
    | _ => .bad)
  | _ => .bad
theorem sd_bagAug (i k n : Nat) {x : Str} {j j2 : Nat} {p1 p2 p3 p4 pos : Pos} (hN : X.N[i]? = some x := by rfl) (hv : Vis X.env.scope x := by first | exact Or.inl rfl | exact Or.inr (Or.inl rfl) | exact Or.inr (Or.inr rfl))
    (hd : (x == ("__debug__" : Str)) = false := by decide) (hcd : (x == ("__classdict__" : Str)) = false := by decide) :
    SD X W (.AugAssign (.Subscript (.Name x p1) (.Constant (.int (k : Int)) j p2) p3) .Add (.Constant (.int (n : Int)) j2 p4) pos)
      (tAugS (tVar i) (tC (.int (k : Int))) (tC (.int (n : Int))) (fun x y H Q => ∃ (p : Addr) (xs : List V) (k : Nat) (v : V), x = .ref p ∧ y = .int (k : Int) ∧ H p = some (.lst xs) ∧ xs[k]? = some v ∧ Q v H) (ipI fun i j => i + j) rSetL) (mBagAug i k n) := by
  refine ⟨ps_augS (pe_var hN hv hd hcd) pe_int get_bag pe_int ip_add set_list, fun w G0 H0 σ env G H B D R h => ?_⟩
  unfold mBagAug at h
  split at h
  · rename_i q
    obtain ⟨v, h1, b, l, hw, hv⟩ := R.slot i _ q
    subst hv
    obtain ⟨a1, a2, a3⟩ := R.ok.bag b l hw
    have go : ∀ (v : Nat) (B2 : Bag), ([V.int (B.s0 : Int), .int (B.s1 : Int), .int (B.s2 : Int), .ref l] : List V)[k]? = some (.int (v : Int)) → bagSet B k (v + n) = some B2 → PostS X.K X.mg w G0 H0 G W D (.nx env B2) →
        tAugS (tVar i) (tC (.int (k : Int))) (tC (.int (n : Int))) (fun x y H Q => ∃ (p : Addr) (xs : List V) (k : Nat) (v : V), x = .ref p ∧ y = .int (k : Int) ∧ H p = some (.lst xs) ∧ xs[k]? = some v ∧ Q v H) (ipI fun i j => i + j) rSetL D σ H := fun v B2 e1 e2 p => by
      refine ⟨_, h1, b, _, k, _, rfl, rfl, a1, e1, (v : Int), (n : Int), rfl, rfl, ?_⟩
      have ez : ((v : Int) + (n : Int)) = ((v + n : Nat) : Int) := by omega
      show rSetL (.ref b) (.int (k : Int)) (.int ((v : Int) + (n : Int))) H _
      rw [ez]
      exact bag_put R hw e2 fun H' R' => p σ G H' R' (Sub.refl G)
    match k, h with
    | 0, h => exact go B.s0 _ rfl rfl h
    | 1, h => exact go B.s1 _ rfl rfl h
    | 2, h => exact go B.s2 _ rfl rfl h
    | 3, h => exact h.elim
    | k + 4, h => exact h.elim
  · exact h.elim

/-! ### lists of one's own -/
theorem Rel.setOwn {K : Fg} {w : Wd} {G0 H0 : Hp} {σ : L2.St} {env : EnvM} {G H G1 H1 : Hp} {B B1 : Bag} {p : Addr} {vs : List V} {xs : List PD} (R : Rel K w G0 H0 σ env G H B) (s : Step w G H G1 H1) (o : Ok w G1 H1 B1) (i : Nat) (hn : H p = none) (hp : H1 p = some (.lst vs)) (hg : G1 p = none) (hb : Nb w p) (r : DRs K G1 vs xs) :
    Rel K w G0 H0 (σ.set i (some (.ref p))) (env.set i (some (.own xs))) G1 H1 B1 := by
  have h0 : H0 p = none := by
    cases e : H0 p with
    | none => rfl
    | some u =>
      have q := R.ent.keep p u hb.one e
      rw [hn] at q; cases q
  refine (R.step s o).put i (fun sv e => by cases e; exact ⟨_, rfl, p, vs, rfl, hg, h0, hb, hp, r⟩) fun sv e _ j sj q hij ej oj eq z => ?_
  cases eq
  obtain ⟨v, h1, h2⟩ := R.slot j sj ej
  cases sj with
  | d x => cases oj
  | bag => cases oj
  | own ys =>
    obtain ⟨p', vs', e1, _, _, _, hp', _⟩ := h2
    subst e1
    rw [h1] at z
    cases z
    rw [hn] at hp'; cases hp'
/-- the list of one's own in slot i changes -/
theorem Rel.upOwn {K : Fg} {w : Wd} {G0 H0 : Hp} {σ : L2.St} {env : EnvM} {G H : Hp} {B : Bag} {p : Addr} {vs vs' : List V} {xs xs' : List PD} (R : Rel K w G0 H0 σ env G H B) (i : Nat) (e : env[i]? = some (some (.own xs))) (hs : σ[i]? = some (some (.ref p))) (hp : H p = some (.lst vs)) (r : DRs K G vs' xs') (hg : G p = none) (h0 : H0 p = none) (hb : Nb w p) :
    Rel K w G0 H0 σ (env.set i (some (.own xs'))) G (upd H p (.lst vs')) B := by
  have hi : i < env.length := (List.getElem?_eq_some_iff.mp e).1
  refine ⟨R.ok.mut hg hb, ⟨R.ent.exG, R.ent.fr, fun a o n q => by rw [upd_ne (ne_of_none q h0)]; exact R.ent.keep a o n q, fun a o q => by rw [upd_ne (ne_of_none q h0)]; exact R.ent.there a o q⟩, by rw [List.length_set]; exact R.len, fun j sv ej => ?_, fun j k sj sk q hjk ej oj ek ok => ?_⟩
  · by_cases hij : i = j
    · subst hij
      rw [List.getElem?_set_self hi] at ej
      cases ej
      exact ⟨_, hs, p, vs', rfl, hg, h0, hb, upd_same, r⟩
    · rw [List.getElem?_set_ne hij] at ej
      obtain ⟨v, h1, h2⟩ := R.slot j sv ej
      refine ⟨v, h1, ?_⟩
      cases sv with
      | d x => exact h2
      | bag => exact h2
      | own ys =>
        obtain ⟨p', us, e1, g', h0', hb', hp', r'⟩ := h2
        subst e1
        have npp : p' ≠ p := fun z => by
          subst z
          exact R.dist i j _ _ p' hij e rfl ej rfl hs h1
        exact ⟨p', us, rfl, g', h0', hb', by rw [upd_ne npp]; exact hp', r'⟩
  · have back : ∀ (j : Nat) (sj : SV), (env.set i (some (.own xs')))[j]? = some (some sj) → sj.isOwn = true → ∃ s', env[j]? = some (some s') ∧ s'.isOwn = true := fun j sj ej oj => by
      by_cases hij : i = j
      · subst hij; exact ⟨_, e, rfl⟩
      · rw [List.getElem?_set_ne hij] at ej; exact ⟨sj, ej, oj⟩
    obtain ⟨s1, q1, q2⟩ := back j sj ej oj
    obtain ⟨s2, q3, q4⟩ := back k sk ek ok
    exact R.dist j k s1 s2 q hjk q1 q2 q3 q4
/-- a, b = [..], e -/
def mParOwn (i j : Nat) (m : EnvM → Bag → Res (List SV)) (m2 : EnvM → Bag → Res PD) : EnvM → Bag → SRes := fun env B => (m env B).s fun ss B1 => match unD ss with
  | some ds => if ds.length ≤ sizeLine then (m2 env B1).s fun d B2 => .nx ((env.set i (some (.own ds))).set j (some (.d d))) B2 else .bad
  | none => .bad
theorem sd_parOwn (i j : Nat) {x y : Str} {es : List Expr} {b : Expr} {t : TA} {t2 : TE} {m : EnvM → Bag → Res (List SV)} {m2 : EnvM → Bag → Res PD} {px py pt pl pos : Pos} {kt k2 pt2} (hc : X.calm = true) (hN : X.N.Nodup) (ha : AD X W es t m) (hb : ED X W b t2 m2) (hi : X.N[i]? = some x := by rfl) (hj : X.N[j]? = some y := by rfl) (hij : i ≠ j := by decide)
    (hx : X.env.scope.names.lookup x = some .local := by rfl) (hy : X.env.scope.names.lookup y = some .local := by rfl)
    (hs1 : starEach [.List es pl, b] X.env = (false, eval (.List es pl) X.env) :: starEach [b] X.env := by rfl) (hs2 : starEach [b] X.env = (false, eval b X.env) :: starEach [] X.env := by rfl)
    (hw : swappedStores [.Tuple [.Name x px, .Name y py] kt pt] (.Tuple [.List es pl, b] k2 pt2) X.env = pure (some [x, y]) := by rfl)
    (hs : swapsWithSole [.Tuple [.Name x px, .Name y py] kt pt] (.Tuple [.List es pl, b] k2 pt2) pos.line X.env = pure false := by rfl) :
    SD X W (.Assign [.Tuple [.Name x px, .Name y py] kt pt] (.Tuple [.List es pl, b] k2 pt2) pos) (tPar i j (tCons (tLst t) (tCons t2 tNil))) (mParOwn i j m m2) := by
  refine ⟨ps_par hc hN hi hj hij hx hy (pa_cons (pe_lst ha.pe) (pa_cons hb.pe pa_nil hs2) hs1) hw hs, fun w G0 H0 σ env G H B D R h => ?_⟩
  refine ha.sem w G0 H0 σ env G H B _ R (PostS.bind (σ := σ) R.ent h fun ss B1 vs G1 H1 s1 o1 d1 h1 => ?_)
  cases e : unD ss with
  | none => simp only [e] at h1; exact h1.elim
  | some ds =>
    simp only [e] at h1
    have r := d1.un e
    by_cases hl : ds.length ≤ sizeLine
    · rw [if_pos hl] at h1
      refine ⟨by rw [r.length]; exact hl, fun p hp => ?_⟩
      have R1 := R.step s1 o1
      have s2 : Step w G1 H1 G1 (upd H1 p (.lst vs)) := Step.newH hp
      have o2 := o1.newH (o := .lst vs) hp
      have R2 := R1.step s2 o2
      refine hb.sem w G0 H0 σ env G1 (upd H1 p (.lst vs)) B1 _ R2 (PostS.bind (σ := σ) R2.ent h1 fun d B2 v G3 H3 s3 o3 d3 h3 => ?_)
      have nb := o1.nb hp
      have gp : G3 p = none := by
        cases q : G3 p with
        | none => rfl
        | some o =>
          rcases s3.fr p o q with z | z
          · have := o1.sub p o z
            rw [hp] at this; cases this
          · rw [upd_same] at z; cases z
      have R3 := R1.setOwn (s2.trans s3) o3 i hp (s3.keep p _ nb.one upd_same) gp nb (r.mono s3.exG)
      exact ⟨_, _, rfl, h3 _ G3 H3 (R3.set j d3) (Sub.trans s1.exG s3.exG)⟩
    · rw [if_neg hl] at h1; exact h1.elim
/-- x = [..] -/
def mOwn (i : Nat) (m : EnvM → Bag → Res (List SV)) : EnvM → Bag → SRes := fun env B => (m env B).s fun ss B1 => match unD ss with
  | some ds => if ds.length ≤ sizeLine then .nx (env.set i (some (.own ds))) B1 else .bad
  | none => .bad
theorem sd_own (i : Nat) {x : Str} {es : List Expr} {t : TA} {m : EnvM → Bag → Res (List SV)} {pos pos' pl : Pos} (hN : X.N.Nodup) (ha : AD X W es t m) (hi : X.N[i]? = some x := by rfl) (hx : Loc X.env.scope x := by first | exact Or.inl rfl | exact Or.inr rfl)
    (hs : swapsWith (.List es pl) (some (.Name x pos')) pos.line X.env = pure false := by rfl) (hf : X.fn x = true ∨ X.env.scope.names.lookup x = some .local := by first | exact .inl rfl | exact .inr rfl) :
    SD X W (.Assign [.Name x pos'] (.List es pl) pos) (tAsg (tLst t) (gName i)) (mOwn i m) := by
  refine ⟨ps_set hN hi hx (pe_lst ha.pe) hs hf, fun w G0 H0 σ env G H B D R h => ?_⟩
  refine ha.sem w G0 H0 σ env G H B _ R (PostS.bind (σ := σ) R.ent h fun ss B1 vs G1 H1 s1 o1 d1 h1 => ?_)
  cases e : unD ss with
  | none => simp only [e] at h1; exact h1.elim
  | some ds =>
    simp only [e] at h1
    have r := d1.un e
    by_cases hl : ds.length ≤ sizeLine
    · rw [if_pos hl] at h1
      refine ⟨by rw [r.length]; exact hl, fun p hp => ?_⟩
      exact h1 _ G1 _ ((R.step s1 o1).setOwn (Step.newH hp) (o1.newH hp) i hp upd_same (o1.free hp) (o1.nb hp) r) s1.exG
    · rw [if_neg hl] at h1; exact h1.elim
/-- what the slot's list is -/
theorem own_at {K : Fg} {w : Wd} {G0 H0 : Hp} {σ : L2.St} {env : EnvM} {G H : Hp} {B : Bag} {i : Nat} {xs : List PD} (R : Rel K w G0 H0 σ env G H B) (e : env[i]? = some (some (.own xs))) : ∃ p vs, σ[i]? = some (some (.ref p)) ∧ G p = none ∧ H0 p = none ∧ Nb w p ∧ H p = some (.lst vs) ∧ DRs K G vs xs := by
  obtain ⟨v, h1, p, vs, rfl, h2⟩ := R.slot i _ e
  exact ⟨p, vs, h1, h2⟩
/-- len(x), x one's own -/
def mLenOwn (i : Nat) : EnvM → Bag → Res PD := fun env B => match env[i]? with
  | some (some (.own xs)) => .ok (.int (xs.length : Int)) B
  | _ => .bad
theorem ed_lenOwn (i : Nat) {x : Str} {p1 p pos : Pos} (hm : X.mg "len" = none) (hg : Gl X "len" := by rfl) (hN : X.N[i]? = some x := by rfl) (hv : Vis X.env.scope x := by first | exact Or.inl rfl | exact Or.inr (Or.inl rfl) | exact Or.inr (Or.inr rfl)) (hd : (x == ("__debug__" : Str)) = false := by decide)
    (hcd : (x == ("__classdict__" : Str)) = false := by decide) (hs : starEach [.Name x p1] X.env = (false, eval (.Name x p1) X.env) :: starEach [] X.env := by rfl) (hpl : (backTo pos (starEach [] X.env)).any (·.1) = false := by rfl) :
    ED X W (.Call (.Name "len" p) [.Name x p1] [] pos) (tCB (fun xs H Q => ∃ x n, xs = [x] ∧ LenV X.K x H n ∧ Q (.int n) H) (tCons (tVar i) tNil)) (mLenOwn i) := by
  refine ⟨pe_callB call_len hg hm PySem.boot_len (pa_cons (pe_var hN hv hd hcd) pa_nil hs) (by decide) (by decide) hs hpl, fun w G0 H0 σ env G H B Q R h => ?_⟩
  unfold mLenOwn at h
  split at h
  · rename_i xs q
    obtain ⟨p, vs, h1, _, _, _, hp, r⟩ := own_at R q
    exact ⟨_, h1, _, _, rfl, .inl ⟨vs, SqL.of hp, rfl⟩, by rw [r.length]; exact h _ G H Step.refl R.ok (.int _)⟩
  · exact h.elim
/-- x[e], x one's own -/
def mIxOwn (i : Nat) (m : EnvM → Bag → Res PD) : EnvM → Bag → Res PD := fun env B => match env[i]? with
  | some (some (.own xs)) => (m env B).bind fun d B1 => (match d with
    | .int k => (match atI xs k with
      | some z => .ok z B1
      | none => .bad)
    | _ => .bad)
  | _ => .bad
theorem ed_ixOwn (i : Nat) {x : Str} {e : Expr} {t : TE} {m : EnvM → Bag → Res PD} {p1 pos : Pos} (he : ED X W e t m) (hs : PlainIx e := by exact fun _ _ => rfl) (hN : X.N[i]? = some x := by rfl) (hv : Vis X.env.scope x := by first | exact Or.inl rfl | exact Or.inr (Or.inl rfl) | exact Or.inr (Or.inr rfl)) (hd : (x == ("__debug__" : Str)) = false := by decide)
    (hcd : (x == ("__classdict__" : Str)) = false := by decide) : ED X W (.Subscript (.Name x p1) e pos) (tOp (rIxL X.K) (tVar i) t) (mIxOwn i m) := by
  refine ⟨pe_ix ix_list (pe_var hN hv hd hcd) he.pe hs, fun w G0 H0 σ env G H B Q R h => ?_⟩
  unfold mIxOwn at h
  split at h
  · rename_i xs q
    obtain ⟨p, vs, h1, g, h0, nb, hp, r⟩ := own_at R q
    refine ⟨_, h1, he.sem w G0 H0 σ env G H B _ R (PostR.bind h fun d B1 v G1 H1 s1 o1 d1 h2 => ?_)⟩
    cases d with
    | int k =>
      have e1 := d1.int_inv
      subst e1
      cases ez : atI xs k with
      | none => simp only [ez] at h2; exact h2.elim
      | some z =>
        simp only [ez] at h2
        obtain ⟨u, a1, a2⟩ := atI_of (r.mono s1.exG) ez
        exact ⟨p, vs, k, u, rfl, rfl, SqL.of (s1.keep p _ nb.one hp), a1, h2 u G1 H1 Step.refl o1 a2⟩
    | _ => exact (show False from h2).elim
  · exact h.elim
/-- x.append(e) -/
def mApp (i : Nat) (m : EnvM → Bag → Res PD) : EnvM → Bag → SRes := fun env B => match env[i]? with
  | some (some (.own xs)) => (m env B).s fun d B1 => if xs.length < sizeLine then .nx (env.set i (some (.own (xs ++ [d])))) B1 else .bad
  | _ => .bad
theorem sd_app (i : Nat) {x : Str} {e : Expr} {t : TE} {m : EnvM → Bag → Res PD} {p1 p2 pc pos : Pos} (he : ED X W e t m) (hN : X.N[i]? = some x := by rfl) (hv : Vis X.env.scope x := by first | exact Or.inl rfl | exact Or.inr (Or.inl rfl) | exact Or.inr (Or.inr rfl)) (hd : (x == ("__debug__" : Str)) = false := by decide)
    (hcd : (x == ("__classdict__" : Str)) = false := by decide) (hpe : PE X (.Call (.Attribute (.Name x p1) "append" p2) [e] [] pc) (tBM X.K "list" rAppend (tVar i) (tCons t tNil)))
    (hs : swapsWith (.Call (.Attribute (.Name x p1) "append" p2) [e] [] pc) none pos.line X.env = pure false := by rfl) :
    SD X W (.Expr (.Call (.Attribute (.Name x p1) "append" p2) [e] [] pc) pos) (tDrop (tBM X.K "list" rAppend (tVar i) (tCons t tNil))) (mApp i m) := by
  refine ⟨ps_expr hpe hs, fun w G0 H0 σ env G H B D R h => ?_⟩
  unfold mApp at h
  split at h
  · rename_i xs q
    obtain ⟨p, vs, h1, g, h0, nb, hp, r⟩ := own_at R q
    refine ⟨_, h1, .inl ⟨rfl, _, SqL.of hp⟩, ?_⟩
    refine he.sem w G0 H0 σ env G H B _ R (PostS.bind (σ := σ) R.ent h fun d B1 v G1 H1 s1 o1 d1 h2 => ?_)
    by_cases hl : xs.length < sizeLine
    · rw [if_pos hl] at h2
      have R1 := R.step s1 o1
      obtain ⟨p', vs', g1, g2, g3, g4, g5, g6⟩ := own_at R1 q
      rw [h1] at g1
      cases g1
      have hpp := s1.keep p _ nb.one hp
      rw [hpp] at g5
      cases g5
      exact ⟨p, vs, v, rfl, rfl, hpp, by rw [r.length]; exact hl, h2 σ G1 _ (R1.upOwn i q h1 hpp (g6.append (.cons d1 .nil)) g2 g3 g4) s1.exG⟩
    · rw [if_neg hl] at h2; exact h2.elim
  · exact h.elim
/-- x.extend(e), e a list -/
def mExt (i : Nat) (m : EnvM → Bag → Res PD) : EnvM → Bag → SRes := fun env B => match env[i]? with
  | some (some (.own xs)) => (m env B).s fun d B1 => (match d with
    | .list ys => if xs.length + ys.length ≤ sizeLine then .nx (env.set i (some (.own (xs ++ ys)))) B1 else .bad
    | _ => .bad)
  | _ => .bad
theorem sd_ext (i : Nat) {x : Str} {e : Expr} {t : TE} {m : EnvM → Bag → Res PD} {p1 p2 pc pos : Pos} (he : ED X W e t m) (hN : X.N[i]? = some x := by rfl) (hv : Vis X.env.scope x := by first | exact Or.inl rfl | exact Or.inr (Or.inl rfl) | exact Or.inr (Or.inr rfl)) (hd : (x == ("__debug__" : Str)) = false := by decide)
    (hcd : (x == ("__classdict__" : Str)) = false := by decide) (hpe : PE X (.Call (.Attribute (.Name x p1) "extend" p2) [e] [] pc) (tBM X.K "list" rExtend (tVar i) (tCons t tNil)))
    (hs : swapsWith (.Call (.Attribute (.Name x p1) "extend" p2) [e] [] pc) none pos.line X.env = pure false := by rfl) :
    SD X W (.Expr (.Call (.Attribute (.Name x p1) "extend" p2) [e] [] pc) pos) (tDrop (tBM X.K "list" rExtend (tVar i) (tCons t tNil))) (mExt i m) := by
  refine ⟨ps_expr hpe hs, fun w G0 H0 σ env G H B D R h => ?_⟩
  unfold mExt at h
  split at h
  · rename_i xs q
    obtain ⟨p, vs, h1, g, h0, nb, hp, r⟩ := own_at R q
    refine ⟨_, h1, .inl ⟨rfl, _, SqL.of hp⟩, ?_⟩
    refine he.sem w G0 H0 σ env G H B _ R (PostS.bind (σ := σ) R.ent h fun d B1 v G1 H1 s1 o1 d1 h2 => ?_)
    cases d with
    | list ys =>
      cases d1 with
      | lst hx ry =>
        rename_i a us
        by_cases hl : xs.length + ys.length ≤ sizeLine
        · simp only [if_pos hl] at h2
          have R1 := R.step s1 o1
          obtain ⟨p', vs', g1, g2, g3, g4, g5, g6⟩ := own_at R1 q
          rw [h1] at g1
          cases g1
          have hpp := s1.keep p _ nb.one hp
          rw [hpp] at g5
          cases g5
          exact ⟨p, a, vs, us, rfl, rfl, hpp, o1.sub _ _ hx, by rw [r.length, ry.length]; exact hl, h2 σ G1 _ (R1.upOwn i q h1 hpp (g6.append ry) g2 g3 g4) s1.exG⟩
        · simp only [if_neg hl] at h2; exact h2.elim
    | _ => exact (show False from h2).elim
  · exact h.elim

/-! ### list(zip(a, b)) -/
def zipP : List PD → Option PD
  | [.list xs, .list ys] => if xs.length = ys.length then some (.list (List.zipWith (fun x y => .tuple [x, y]) xs ys)) else none
  | [.tuple xs, .tuple ys] => if xs.length = ys.length then some (.list (List.zipWith (fun x y => .tuple [x, y]) xs ys)) else none
  | _ => none
def withNew (G H1 H2 : Hp) : Hp := fun c => match H1 c with
  | some _ => G c
  | none => H2 c
theorem pairs_dr {K : Fg} {G : Hp} : ∀ {Ts : List Addr} {xs ys : List V} {ds es : List PD}, DRs K G xs ds → DRs K G ys es → xs.length = ys.length → Ts.length = xs.length →
    (∀ (j : Nat) (T : Addr) (x y : V), Ts[j]? = some T → xs[j]? = some x → ys[j]? = some y → G T = some (.tup [x, y])) → DRs K G (Ts.map V.ref) (List.zipWith (fun x y => .tuple [x, y]) ds es)
  | [], _, _, _, _, .nil, .nil, _, _, _ => .nil
  | T :: Ts, _, _, _, _, .cons hx rx, .cons hy ry, hl, ht, k => by
    refine .cons (.tup (SqT.of (k 0 T _ _ rfl rfl rfl)) (.cons hx (.cons hy .nil))) (pairs_dr rx ry ?_ ?_ fun j T x y e1 e2 e3 => k (j + 1) T x y (by simpa using e1) (by simpa using e2) (by simpa using e3))
    · simpa using hl
    · simpa using ht
  | [], _, _, _, _, .cons _ _, _, _, h, _ => by simp at h
  | _ :: _, _, _, _, _, .nil, _, _, h, _ => by simp at h
  | [], _, _, _, _, .nil, .cons _ _, h, _, _ => by simp at h
  | _ :: _, _, _, _, _, .cons _ _, .nil, h, _, _ => by simp at h
theorem ed_listZip {e e2 : Expr} {t : TA} {m : EnvM → Bag → Res (List SV)} {p0 p pos pos0 : Pos} (hc : X.calm = true) (hm0 : X.mg "list" = none) (hm : X.mg "zip" = none) (ha : AD X W [e, e2] t m) (hg0 : Gl X "list" := by rfl) (hg : Gl X "zip" := by rfl)
    (hs0 : starEach [.Call (.Name "zip" p) [e, e2] [] pos] X.env = (false, eval (.Call (.Name "zip" p) [e, e2] [] pos) X.env) :: starEach [] X.env := by rfl)
    (hs : starEach [e, e2] X.env = (false, eval e X.env) :: starEach [e2] X.env := by rfl) (hpl : (backTo pos (starEach [e2] X.env)).any (·.1) = false := by rfl) :
    ED X W (.Call (.Name "list" p0) [.Call (.Name "zip" p) [e, e2] [] pos] [] pos0) (ZL.tListZip X.K t) (mCa zipP m) := by
  refine ⟨ZL.pe_listZip hc hm0 hm ha.pe hg0 hg hs0 hs hpl, fun w G0 H0 σ env G H B Q R h => ?_⟩
  refine ha.sem w G0 H0 σ env G H B _ R (PostR.bind h fun ss B1 vs G1 H1 s1 o1 d1 h1 => ?_)
  cases eu : unD ss with
  | none => rw [eu] at h1; exact h1.elim
  | some ds =>
    rw [eu] at h1
    have r := d1.un eu
    have h1 : PostE X.K X.mg w G1 H1 (match zipP ds with | some z => .ok z B1 | none => .bad) Q (fun c d H' => W c d σ H') := h1
    have fin : ∀ (xs ys : List V) (es fs : List PD), DRs X.K G1 xs es → DRs X.K G1 ys fs → xs.length = ys.length → PostE X.K X.mg w G1 H1 (.ok (.list (List.zipWith (fun x y => .tuple [x, y]) es fs)) B1) Q (fun c d H' => W c d σ H') →
        ∀ (Ts : List Addr) (l : Addr) (H2 : Hp), Ts.length = xs.length → H1 l = none → (∀ T ∈ Ts, H1 T = none ∧ T ≠ l) → (∀ c o, H1 c = some o → H2 c = some o) → (∀ c o, H2 c = some o → H1 c = some o ∨ (H1 c = none ∧ (c = l ∨ c ∈ Ts))) → H2 l = some (.lst (Ts.map V.ref)) →
        (∀ (j : Nat) (T : Addr) (x y : V), Ts[j]? = some T → xs[j]? = some x → ys[j]? = some y → H2 T = some (.tup [x, y])) → Q (.ref l) H2 := by
      intro xs ys es fs rx ry hl hp Ts l H2 tl hn hT old new hlst hpair
      have nw : ∀ c, H1 c = none → withNew G1 H1 H2 c = H2 c := fun c e => by unfold withNew; rw [e]
      have ow : ∀ c o, H1 c = some o → withNew G1 H1 H2 c = G1 c := fun c o e => by unfold withNew; rw [e]
      have st : Step w G1 H1 (withNew G1 H1 H2) H2 := by
        refine ⟨fun c o e => by rw [ow c _ (o1.sub c o e)]; exact e, fun c o e => ?_, fun c o _ e => old c o e, fun c o e => ⟨o, old c o e⟩⟩
        cases q : H1 c with
        | none => exact .inr rfl
        | some u => rw [ow c u q] at e; exact .inl e
      have o2 : Ok w (withNew G1 H1 H2) H2 B1 := by
        refine ⟨fun c o e => ?_, o1.bag.keep old, fun b l e => ?_, fun b l e => ?_⟩
        · cases q : H1 c with
          | none => rw [nw c q] at e; exact e
          | some u =>
            rw [ow c u q] at e
            exact old c o (o1.sub c o e)
        · obtain ⟨b1, _, _⟩ := o1.bag b l e
          rw [ow b _ b1]; exact o1.gb b l e
        · obtain ⟨_, _, b3⟩ := o1.bag b l e
          rw [ow l _ b3]; exact o1.gl b l e
      refine hp _ _ _ st o2 (.lst (by rw [nw l hn]; exact hlst) ?_)
      refine pairs_dr (rx.mono st.exG) (ry.mono st.exG) hl tl fun j T x y e1 e2 e3 => ?_
      rw [nw T (hT T (List.mem_iff_getElem?.mpr ⟨j, e1⟩)).1]
      exact hpair j T x y e1 e2 e3
    unfold zipP at h1
    split at h1
    · rename_i z q
      split at q
      · rename_i es fs
        obtain ⟨hl, rfl⟩ := some_if q
        match vs, r with
        | _, .cons (.lst ha1 ra) (.cons (.lst hb1 rb) .nil) =>
          have hl2 : _ := ra.length.trans (hl.trans rb.length.symm)
          exact ⟨_, _, _, _, rfl, .inl ⟨subL o1.sub ha1, subL o1.sub hb1⟩, hl2, fin _ _ _ _ ra rb hl2 h1⟩
      · rename_i es fs
        obtain ⟨hl, rfl⟩ := some_if q
        match vs, r with
        | _, .cons (.tup ha1 ra) (.cons (.tup hb1 rb) .nil) =>
          have hl2 : _ := ra.length.trans (hl.trans rb.length.symm)
          exact ⟨_, _, _, _, rfl, .inr ⟨subT o1.sub ha1, subT o1.sub hb1⟩, hl2, fin _ _ _ _ ra rb hl2 h1⟩
      · cases q
    · exact h1.elim
end
end DL
set_option Elab.async false
set_option linter.all false
set_option maxRecDepth 100000
set_option maxHeartbeats 2000000
/-! DL5: isinstance, comprehensions, defs. -/
namespace DL
open PySem L2 C8
def W0 : WX := fun _ _ _ _ => False
section
variable {X : Cx} {W : WX}
/-! ### isinstance -/
def tyN : PD → String
  | .none => "NoneType"
  | .bool _ => "bool"
  | .int _ => "int"
  | .str _ => "str"
  | .list _ => "list"
  | .tuple _ => "tuple"
  | .dict _ => "dict"
theorem tyX_of {K : Fg} {G H : Hp} {v : V} {d : PD} (s : Sub G H) (r : DR K G v d) : TyX K H v (.type (tyN d)) := by
  cases r with
  | non => exact .base .non
  | bl b => exact .base (.bl b)
  | int i => exact .base (.int i)
  | str x => exact .base (.str x)
  | lst h r => exact .base (.lst (s _ _ h))
  | tup h r =>
    rcases h with (h | ⟨o, h⟩) | ⟨o, its, n, h1, h2, _⟩
    · exact .base (.tup (s _ _ h))
    · exact .fTuple (s _ _ h)
    · exact .kTuple h1 h2
def isTT (T : String) (d : PD) : Bool := match kitB (tyN d) T with
  | some b => b
  | none => false
def isIntB : PD → Bool
  | .int _ => true
  | .bool _ => true
  | _ => false
def isBoolB : PD → Bool
  | .bool _ => true
  | _ => false
def isStrB : PD → Bool
  | .str _ => true
  | _ => false
def isListB : PD → Bool
  | .list _ => true
  | _ => false
def isTupB : PD → Bool
  | .tuple _ => true
  | _ => false
def isDictB : PD → Bool
  | .dict _ => true
  | _ => false
theorem kit_int : ∀ d : PD, kitB (tyN d) "int" = some (isIntB d)
  | .none => (by decide +kernel : kitB "NoneType" "int" = some false)
  | .bool b => (by decide +kernel : kitB "bool" "int" = some true)
  | .int b => (by decide +kernel : kitB "int" "int" = some true)
  | .str b => (by decide +kernel : kitB "str" "int" = some false)
  | .list b => (by decide +kernel : kitB "list" "int" = some false)
  | .tuple b => (by decide +kernel : kitB "tuple" "int" = some false)
  | .dict b => (by decide +kernel : kitB "dict" "int" = some false)
theorem kit_bool : ∀ d : PD, kitB (tyN d) "bool" = some (isBoolB d)
  | .none => (by decide +kernel : kitB "NoneType" "bool" = some false)
  | .bool b => (by decide +kernel : kitB "bool" "bool" = some true)
  | .int b => (by decide +kernel : kitB "int" "bool" = some false)
  | .str b => (by decide +kernel : kitB "str" "bool" = some false)
  | .list b => (by decide +kernel : kitB "list" "bool" = some false)
  | .tuple b => (by decide +kernel : kitB "tuple" "bool" = some false)
  | .dict b => (by decide +kernel : kitB "dict" "bool" = some false)
theorem kit_str : ∀ d : PD, kitB (tyN d) "str" = some (isStrB d)
  | .none => (by decide +kernel : kitB "NoneType" "str" = some false)
  | .bool b => (by decide +kernel : kitB "bool" "str" = some false)
  | .int b => (by decide +kernel : kitB "int" "str" = some false)
  | .str b => (by decide +kernel : kitB "str" "str" = some true)
  | .list b => (by decide +kernel : kitB "list" "str" = some false)
  | .tuple b => (by decide +kernel : kitB "tuple" "str" = some false)
  | .dict b => (by decide +kernel : kitB "dict" "str" = some false)
theorem kit_list : ∀ d : PD, kitB (tyN d) "list" = some (isListB d)
  | .none => (by decide +kernel : kitB "NoneType" "list" = some false)
  | .bool b => (by decide +kernel : kitB "bool" "list" = some false)
  | .int b => (by decide +kernel : kitB "int" "list" = some false)
  | .str b => (by decide +kernel : kitB "str" "list" = some false)
  | .list b => (by decide +kernel : kitB "list" "list" = some true)
  | .tuple b => (by decide +kernel : kitB "tuple" "list" = some false)
  | .dict b => (by decide +kernel : kitB "dict" "list" = some false)
theorem kit_tuple : ∀ d : PD, kitB (tyN d) "tuple" = some (isTupB d)
  | .none => (by decide +kernel : kitB "NoneType" "tuple" = some false)
  | .bool b => (by decide +kernel : kitB "bool" "tuple" = some false)
  | .int b => (by decide +kernel : kitB "int" "tuple" = some false)
  | .str b => (by decide +kernel : kitB "str" "tuple" = some false)
  | .list b => (by decide +kernel : kitB "list" "tuple" = some false)
  | .tuple b => (by decide +kernel : kitB "tuple" "tuple" = some true)
  | .dict b => (by decide +kernel : kitB "dict" "tuple" = some false)
theorem kit_dict : ∀ d : PD, kitB (tyN d) "dict" = some (isDictB d)
  | .none => (by decide +kernel : kitB "NoneType" "dict" = some false)
  | .bool b => (by decide +kernel : kitB "bool" "dict" = some false)
  | .int b => (by decide +kernel : kitB "int" "dict" = some false)
  | .str b => (by decide +kernel : kitB "str" "dict" = some false)
  | .list b => (by decide +kernel : kitB "list" "dict" = some false)
  | .tuple b => (by decide +kernel : kitB "tuple" "dict" = some false)
  | .dict b => (by decide +kernel : kitB "dict" "dict" = some true)
def mIsi (f : PD → Bool) (m : EnvM → Bag → Res PD) : EnvM → Bag → Res PD := fun env B => (m env B).bind fun d B1 => .ok (.bool (f d)) B1
theorem ed_isi {e : Expr} {t : TE} {m : EnvM → Bag → Res PD} {T : String} {f : PD → Bool} {x : Str} {p p2 pos : Pos} (hf : ∀ d, kitB (tyN d) T = some (f d)) (hm : X.mg "isinstance" = none) (hmT : X.mg x = none) (he : ED X W e t m) (hv : bootBuiltins x = some (.type T)) (hg : Gl X "isinstance" := by rfl) (hgT : Gl X x := by rfl)
    (hn : x ≠ "__name__" := by decide) (hd : (x == ("__debug__" : Str)) = false := by decide)
    (h1 : starEach [e, .Name x p2] X.env = (false, eval e X.env) :: starEach [.Name x p2] X.env := by rfl) (h2 : starEach [.Name x p2] X.env = (false, eval (.Name x p2) X.env) :: starEach [] X.env := by rfl) (hpl : (backTo pos (starEach [.Name x p2] X.env)).any (·.1) = false := by rfl) :
    ED X W (.Call (.Name "isinstance" p) [e, .Name x p2] [] pos) (tCB (rIsi X.K) (tCons t (tCons (tC (.ty T)) tNil))) (mIsi f m) := by
  refine ⟨pe_callB call_isi hg hm PyProof.Rows.boot_isinstance (pa_cons he.pe (pa_cons (pe_bltn hgT hmT hv rfl hn hd) pa_nil h2) h1) (by decide) (by decide) h1 hpl, fun w G0 H0 σ env G H B Q R h => ?_⟩
  refine he.sem w G0 H0 σ env G H B _ R (PostR.bind h fun d B1 v G1 H1 s1 o1 d1 h1 => ?_)
  exact ⟨v, .ty T, _, _, f d, rfl, .ty T, tyX_of o1.sub d1, kit_ty (hf d), h1 _ G1 H1 Step.refl o1 (.bl _)⟩
/-- isinstance(x, (T1, T2)) -/
def mIsi2 (f g : PD → Bool) (m : EnvM → Bag → Res PD) : EnvM → Bag → Res PD := fun env B => (m env B).bind fun d B1 => .ok (.bool (f d || g d)) B1
theorem ed_isi2 {e : Expr} {t : TE} {m : EnvM → Bag → Res PD} {T T' : String} {f g : PD → Bool} {x y : Str} {p p2 p3 pt pos : Pos} {k} (hf : ∀ d, kitB (tyN d) T = some (f d)) (hg' : ∀ d, kitB (tyN d) T' = some (g d)) (hm : X.mg "isinstance" = none) (hmT : X.mg x = none) (hmT' : X.mg y = none) (he : ED X W e t m)
    (hv : bootBuiltins x = some (.type T)) (hv' : bootBuiltins y = some (.type T')) (hg : Gl X "isinstance" := by rfl) (hgT : Gl X x := by rfl) (hgT' : Gl X y := by rfl)
    (hn : x ≠ "__name__" := by decide) (hd : (x == ("__debug__" : Str)) = false := by decide) (hn' : y ≠ "__name__" := by decide) (hd' : (y == ("__debug__" : Str)) = false := by decide)
    (h1 : starEach [e, .Tuple [.Name x p2, .Name y p3] k pt] X.env = (false, eval e X.env) :: starEach [.Tuple [.Name x p2, .Name y p3] k pt] X.env := by rfl)
    (h2 : starEach [.Tuple [.Name x p2, .Name y p3] k pt] X.env = (false, eval (.Tuple [.Name x p2, .Name y p3] k pt) X.env) :: starEach [] X.env := by rfl)
    (h3 : starEach [.Name x p2, .Name y p3] X.env = (false, eval (.Name x p2) X.env) :: starEach [.Name y p3] X.env := by rfl) (h4 : starEach [.Name y p3] X.env = (false, eval (.Name y p3) X.env) :: starEach [] X.env := by rfl)
    (hpl : (backTo pos (starEach [.Tuple [.Name x p2, .Name y p3] k pt] X.env)).any (·.1) = false := by rfl) :
    ED X W (.Call (.Name "isinstance" p) [e, .Tuple [.Name x p2, .Name y p3] k pt] [] pos) (tCB (rIsiT X.K) (tCons t (tCons (tTup (tCons (tC (.ty T)) (tCons (tC (.ty T')) tNil))) tNil))) (mIsi2 f g m) := by
  refine ⟨pe_callB call_isiT hg hm PyProof.Rows.boot_isinstance (pa_cons he.pe (pa_cons (pe_tup (pa_cons (pe_bltn hgT hmT hv rfl hn hd) (pa_cons (pe_bltn hgT' hmT' hv' rfl hn' hd') pa_nil h4) h3)) pa_nil h2) h1) (by decide) (by decide) h1 hpl, fun w G0 H0 σ env G H B Q R h => ?_⟩
  refine he.sem w G0 H0 σ env G H B _ R (PostR.bind h fun d B1 v G1 H1 s1 o1 d1 h1 => ?_)
  refine ⟨(by decide : 2 ≤ sizeLine), fun p hp => ?_⟩
  have s2 : Step w G1 H1 G1 (upd H1 p (.tup [.ty T, .ty T'])) := Step.newH hp
  have o2 := o1.newH (o := .tup [.ty T, .ty T']) hp
  refine ⟨v, p, _, _, _, (f d || g d), rfl, upd_same, .cons (.ty T) (.cons (.ty T') .nil), tyX_of o2.sub d1, ?_, h1 _ G1 _ s2 o2 (.bl _)⟩
  refine kitAny_cons (b := f d) (kit_ty (hf d)) (fun e1 => ?_) fun e1 => by rw [e1]; rfl
  rw [e1, Bool.false_or]
  exact kitAny_cons (b := g d) (kit_ty (hg' d)) (fun e2 => by rw [e2]; exact kitAny_nil) fun e2 => e2

/-! ### freezing -/
theorem Step.notIn {w : Wd} {G H G' H' : Hp} {D : Addr} {o : HO} (s : Step w G H G' H') (g : G D = none) (h : H D = some o) : G' D = none := by
  cases q : G' D with
  | none => rfl
  | some u =>
    rcases s.fr D u q with z | z
    · rw [g] at z; cases z
    · rw [h] at z; cases z
theorem Step.mutNew {w : Wd} {G1 H1 G H : Hp} {D : Addr} {o : HO} (s : Step w G1 H1 G H) (h : H1 D = none) : Step w G1 H1 G (upd H D o) :=
  ⟨s.exG, s.fr, fun a u n q => by rw [upd_ne (ne_of_none q h)]; exact s.keep a u n q, fun a u q => by rw [upd_ne (ne_of_none q h)]; exact s.there a u q⟩
theorem Step.freeze {w : Wd} {G1 H1 G H : Hp} {D : Addr} {o : HO} (s : Step w G1 H1 G H) (g : G D = none) (h : H1 D = none) : Step w G1 H1 (upd G D o) H := by
  refine ⟨fun a u q => ?_, fun a u q => ?_, s.keep, s.there⟩
  · have q1 := s.exG a u q
    rw [upd_ne (ne_of_none q1 g)]; exact q1
  · by_cases e : a = D
    · subst e; exact .inr h
    · rw [upd_ne e] at q; exact s.fr a u q
theorem Ok.freeze {w : Wd} {G H : Hp} {B : Bag} {D : Addr} {o : HO} (k : Ok w G H B) (n : Nb w D) (h : H D = some o) : Ok w (upd G D o) H B := by
  refine ⟨fun a u q => ?_, k.bag, fun b l e => ?_, fun b l e => ?_⟩
  · by_cases e : a = D
    · subst e; rw [upd_same] at q; cases q; exact h
    · rw [upd_ne e] at q; exact k.sub a u q
  · rw [upd_ne (n b l e).1]; exact k.gb b l e
  · rw [upd_ne (n b l e).2]; exact k.gl b l e
theorem sub_upd {G : Hp} {D : Addr} {o : HO} (g : G D = none) : Sub G (upd G D o) := fun a u q => by rw [upd_ne (ne_of_none q g)]; exact q

/-! ### comprehensions -/
structure TDs (X : Cx) (W : WX) (ifs : List Expr) (t : TT) (m : EnvM → Bag → Res Bool) : Prop where
  pe : PTs X ifs t
  sem : ∀ (w : Wd) (G0 H0 : Hp) (σ : L2.St) (env : EnvM) (G H : Hp) (B : Bag) (Q : Bool → Hp → Prop), Rel X.K w G0 H0 σ env G H B →
    PostT X.K X.mg w G H (m env B) Q (fun c d H' => W c d σ H') → t σ H Q
def mYes : EnvM → Bag → Res Bool := fun _ B => .ok true B
theorem tds_nil : TDs X W [] tYes mYes := ⟨pts_nil, fun w G0 H0 σ env G H B Q R h => h true G H Step.refl R.ok rfl⟩
theorem tds_one {c : Expr} {t : TT} {m : EnvM → Bag → Res Bool} (h : TD X W c t m) : TDs X W [c] t m := ⟨pts_one h.pe, h.sem⟩
theorem wipe_wipe {σ : L2.St} {vs : List Nat} : ∀ us : List Nat, (∀ u ∈ us, u ∈ vs) → wipe (wipe σ us) vs = wipe σ vs
  | [], _ => rfl
  | u :: us, h => by
    show wipe ((wipe σ us).set u none) vs = _
    rw [wipe_set (h u List.mem_cons_self)]
    exact wipe_wipe us fun z hz => h z (List.mem_cons_of_mem _ hz)
def mLcGo (g : PD → EnvM → Option EnvM) (c : EnvM → Bag → Res Bool) (m : EnvM → Bag → Res PD) (env0 : EnvM) : List PD → Bag → Res (List PD)
  | [], B => .ok [] B
  | d :: ds, B => match g d env0 with
    | none => .bad
    | some e1 => match c e1 B with
      | .ok true B1 => (match m e1 B1 with
        | .ok y B2 => (match mLcGo g c m env0 ds B2 with
          | .ok ys B3 => .ok (y :: ys) B3
          | _ => .bad)
        | _ => .bad)
      | .ok false B1 => mLcGo g c m env0 ds B1
      | _ => .bad
def mLc (vs : List Nat) (mi : EnvM → Bag → Res (List PD)) (g : PD → EnvM → Option EnvM) (c : EnvM → Bag → Res Bool) (m : EnvM → Bag → Res PD) : EnvM → Bag → Res PD := fun env B => (mi env B).bind fun ds B1 =>
  if ds.length ≤ sizeLine then (match mLcGo g c m (wipeE env vs) ds B1 with
    | .ok ys B2 => .ok (.list ys) B2
    | _ => .bad) else .bad
/-- the end of a list that is being made -/
def lcEnd (acc : List PD) : Res (List PD) → Res PD
  | .ok ys B => .ok (.list (acc ++ ys)) B
  | _ => .bad
theorem lc_sem {elt tg iter : Expr} {ifs : List Expr} {scope : Scope} {own : List (Str × Nat)} {wi : TI} {g : TG} {tt : TT} {te : TE} {mi : EnvM → Bag → Res (List PD)} {mgt : PD → EnvM → Option EnvM} {mt : EnvM → Bag → Res Bool} {me : EnvM → Bag → Res PD} {js : List Nat} (hi : WI X W tg iter wi mi)
    (hg : ∀ (s : Shared) (H : Hp) (C : Addr) (cl : List (Str × Addr)) (fp : List Addr), GT (X.blk s H scope (compEnvC scope cl C X.env) fp) tg g mgt js) (ht : ∀ (s : Shared) (H : Hp) (C : Addr) (cl : List (Str × Addr)) (fp : List Addr), TDs (X.blk s H scope (compEnvC scope cl C X.env) fp) W0 ifs tt mt)
    (he : ∀ (s : Shared) (H : Hp) (C : Addr) (cl : List (Str × Addr)) (fp : List Addr), ED (X.blk s H scope (compEnvC scope cl C X.env) fp) W0 elt te me) (hjs : ∀ j ∈ js, j ∈ own.map (·.2))
    (w : Wd) (G0 H0 : Hp) (σ : L2.St) (env : EnvM) (G H : Hp) (B : Bag) (Q : VK) (R : Rel X.K w G0 H0 σ env G H B) (h : PostE X.K X.mg w G H (mLc (own.map (·.2)) mi mgt mt me env B) Q (fun c d H' => W c d σ H')) :
    tLc wi g tt te (own.map (·.2)) σ H Q := by
  have gg := hg X.s_0 X.H_0 0 [] []
  have tt' := ht X.s_0 X.H_0 0 [] []
  have ee := he X.s_0 X.H_0 0 [] []
  generalize hvs : own.map (·.2) = vs at *
  refine hi.sem w G0 H0 σ env G H B _ R (PostR.bind h fun ds B1 J G1 H1 s1 o1 wk h1 => ?_)
  by_cases hl : ds.length ≤ sizeLine
  · rw [if_pos hl] at h1
    have R1 := R.step s1 o1
    intro D hD
    have nD : Nb w D := o1.nb hD
    have p0 : PostE X.K X.mg w G1 H1 (lcEnd [] (mLcGo mgt mt me (wipeE env vs) ds B1)) Q (fun c d H' => W c d σ H') := by
      unfold lcEnd
      split at h1
      · exact h1
      · exact h1.elim
    refine ⟨fun i m H => m = ds.length - i ∧ i ≤ ds.length ∧ ∃ G' B acc ac, Step w G1 H1 G' H ∧ Ok w G' H B ∧ G' D = none ∧ H D = some (.lst acc) ∧ DRs X.K G' acc ac ∧ acc.length ≤ i ∧ PostE X.K X.mg w G1 H1 (lcEnd ac (mLcGo mgt mt me (wipeE env vs) (ds.drop i) B)) Q (fun c d H' => W c d σ H'),
      ⟨ds.length, by simp, Nat.zero_le _, G1, B1, [], [], Step.newH hD, o1.newH hD, o1.free hD, upd_same, .nil, Nat.le_refl _, p0⟩, ?_⟩
    rintro i m H2 ⟨rfl, hin, G2, B2, acc, ac, s2, o2, g2, hD2, ra, la, p2⟩
    by_cases hlt : i < ds.length
    · right
      have hd : ds[i]? = some ds[i] := by simp [hlt]
      rw [List.drop_eq_getElem_cons hlt] at p2
      refine ⟨wk.go i H2 _ (Sub.trans s2.exG o2.sub) hd, fun H => ∃ G' B acc ac, Step w G1 H1 G' H ∧ Ok w G' H B ∧ G' D = none ∧ H D = some (.lst acc) ∧ DRs X.K G' acc ac ∧ acc.length ≤ i + 1 ∧ PostE X.K X.mg w G1 H1 (lcEnd ac (mLcGo mgt mt me (wipeE env vs) (ds.drop (i + 1)) B)) Q (fun c d H' => W c d σ H'),
        fun H' q => ⟨ds.length - (i + 1), by omega, rfl, hlt, q⟩, fun x H3 y => ?_⟩
      obtain ⟨G3, s3, o3, d3⟩ := wk.yld i w G2 H2 B2 x H3 _ o2 s2.exG hd y
      unfold mLcGo at p2
      cases q : mgt ds[i] (wipeE env vs) with
      | none => rw [q] at p2; exact p2.elim
      | some env3 =>
        rw [q] at p2
        have s13 := s2.trans s3
        refine gg.sem w G0 H0 (wipe σ vs) (wipeE env vs) G3 H3 B2 x _ env3 _ ((R1.step s13 o3).wipe vs) d3 q fun σ4 R4 w4 => ⟨?_, ?_⟩
        · rw [w4 vs hjs]; exact wipe_wipe vs fun _ z => z
        · cases z : mt env3 B2 with
          | bad => simp only [z] at p2; exact p2.elim
          | exc c as B4 => simp only [z] at p2; exact p2.elim
          | ok b B4 =>
            refine tt'.sem w G0 H0 σ4 env3 G3 H3 B2 _ R4 ?_
            rw [z]
            intro b' G5 H5 s5 o5 eb
            subst eb
            have s15 := s13.trans s5
            have g3 : G3 D = none := s3.notIn g2 hD2
            have hD3 := s3.keep D _ nD.one hD2
            have g5 : G5 D = none := s5.notIn g3 hD3
            have hD5 := s5.keep D _ nD.one hD3
            cases b' with
            | false =>
              simp only [z] at p2
              exact ⟨G5, B4, acc, ac, s15, o5, g5, hD5, (ra.mono s3.exG).mono s5.exG, by omega, p2⟩
            | true =>
              simp only [z] at p2
              cases z2 : me env3 B4 with
              | bad => simp only [z2] at p2; exact p2.elim
              | exc c as B6 => simp only [z2] at p2; exact p2.elim
              | ok y B6 =>
                simp only [z2] at p2
                show te σ4 H5 _
                refine ee.sem w G0 H0 σ4 env3 G5 H5 B4 _ (R4.step s5 o5) ?_
                rw [z2]
                intro yv G7 H7 s7 o7 d7
                have g7 : G7 D = none := s7.notIn g5 hD5
                have hD7 := s7.keep D _ nD.one hD5
                have s17 := s15.trans s7
                refine ⟨acc, hD7, by omega, G7, B6, acc ++ [yv], ac ++ [y], s17.mutNew hD, o7.mut g7 nD, g7, upd_same, (((ra.mono s3.exG).mono s5.exG).mono s7.exG).append (.cons d7 .nil), by rw [List.length_append]; simp; omega, ?_⟩
                cases z3 : mLcGo mgt mt me (wipeE env vs) (ds.drop (i + 1)) B6 with
                | bad => simp only [z3] at p2; exact p2.elim
                | exc c as B8 => simp only [z3] at p2; exact p2.elim
                | ok ys B8 =>
                  simp only [z3, lcEnd] at p2 ⊢
                  rw [List.append_assoc]
                  exact p2
    · left
      have e : i = ds.length := by omega
      subst e
      rw [List.drop_length] at p2
      refine ⟨wk.stop _ H2 (Sub.trans s2.exG o2.sub) (Nat.le_refl _), ?_⟩
      have p2 : PostE X.K X.mg w G1 H1 (.ok (.list (ac ++ [])) B2) Q (fun c d H' => W c d σ H') := p2
      rw [List.append_nil] at p2
      exact p2 _ (upd G2 D (.lst acc)) H2 (s2.freeze g2 hD) (o2.freeze nD hD2) (.lst upd_same (ra.mono (sub_upd g2)))
  · rw [if_neg hl] at h1; exact h1.elim
theorem ed_lc {elt tg iter : Expr} {ifs : List Expr} {scope : Scope} (own : List (Str × Nat)) {pos : Pos} {wi : TI} {g : TG} {tt : TT} {te : TE} {mi : EnvM → Bag → Res (List PD)} {mgt : PD → EnvM → Option EnvM} {mt : EnvM → Bag → Res Bool} {me : EnvM → Bag → Res PD} {js : List Nat} (hc : X.calm = true) (hN : X.N.Nodup) (hi : WI X W tg iter wi mi)
    (hg : ∀ (s : Shared) (H : Hp) (C : Addr) (cl : List (Str × Addr)) (fp : List Addr), GT (X.blk s H scope (compEnvC scope cl C X.env) fp) tg g mgt js) (ht : ∀ (s : Shared) (H : Hp) (C : Addr) (cl : List (Str × Addr)) (fp : List Addr), TDs (X.blk s H scope (compEnvC scope cl C X.env) fp) W0 ifs tt mt)
    (he : ∀ (s : Shared) (H : Hp) (C : Addr) (cl : List (Str × Addr)) (fp : List Addr), ED (X.blk s H scope (compEnvC scope cl C X.env) fp) W0 elt te me) (ok : blkC X.N X.env.scope scope own = true := by rfl) (hjs : ∀ j ∈ js, j ∈ own.map (·.2) := by decide) (hs : ∀ x, foldedSetIterable iter X.env x = pure x := by intro _; rfl) :
    ED X W (.ListComp elt [⟨tg, iter, ifs, 0⟩] scope pos) (tLc wi g tt te (own.map (·.2))) (mLc (own.map (·.2)) mi mgt mt me) :=
  ⟨pe_lc hc hN hi.pe (blkOk_by ok) (fun s H C cl fp => (hg s H C cl fp).pg) (fun s H C cl fp => (ht s H C cl fp).pe) (fun s H C cl fp => (he s H C cl fp).pe) hs, lc_sem hi hg ht he hjs⟩
theorem sd_setLc (i : Nat) {y : Str} {py : Pos} {elt tg iter : Expr} {ifs : List Expr} {scope : Scope} (own : List (Str × Nat)) {pos spos : Pos} {wi : TI} {g : TG} {tt : TT} {te : TE} {mi : EnvM → Bag → Res (List PD)} {mgt : PD → EnvM → Option EnvM} {mt : EnvM → Bag → Res Bool} {me : EnvM → Bag → Res PD} {js : List Nat} (hc : X.calm = true) (hN : X.N.Nodup) (hi : WI X W tg iter wi mi)
    (hg : ∀ (s : Shared) (H : Hp) (C : Addr) (cl : List (Str × Addr)) (fp : List Addr), GT (X.blk s H scope (compEnvC scope cl C X.env) fp) tg g mgt js) (ht : ∀ (s : Shared) (H : Hp) (C : Addr) (cl : List (Str × Addr)) (fp : List Addr), TDs (X.blk s H scope (compEnvC scope cl C X.env) fp) W0 ifs tt mt)
    (he : ∀ (s : Shared) (H : Hp) (C : Addr) (cl : List (Str × Addr)) (fp : List Addr), ED (X.blk s H scope (compEnvC scope cl C X.env) fp) W0 elt te me) (ok : blkC X.N X.env.scope scope own = true := by rfl) (hjs : ∀ j ∈ js, j ∈ own.map (·.2) := by decide) (hs : ∀ x, foldedSetIterable iter X.env x = pure x := by intro _; rfl)
    (hy : X.N[i]? = some y := by rfl) (hyl : X.env.scope.names.lookup y = some .local := by rfl) (hsw : swapsWith (.ListComp elt [⟨tg, iter, ifs, 0⟩] scope pos) (some (.Name y py)) spos.line X.env = pure true := by rfl) :
    SD X W (.Assign [.Name y py] (.ListComp elt [⟨tg, iter, ifs, 0⟩] scope pos) spos) (tAsg (tLc wi g tt te (own.map (·.2))) (gName i)) (mSet (mgName i) (mLc (own.map (·.2)) mi mgt mt me)) := by
  refine ⟨ps_setLc hc hN hy hyl hsw hi.pe (blkOk_by ok) (fun s H C cl fp => (hg s H C cl fp).pg) (fun s H C cl fp => (ht s H C cl fp).pe) (fun s H C cl fp => (he s H C cl fp).pe) hs, fun w G0 H0 σ env G H B D R h => ?_⟩
  refine lc_sem hi hg ht he hjs w G0 H0 σ env G H B _ R (PostS.bind (σ := σ) R.ent h fun d B1 v G1 H1 s1 o1 d1 h1 => ?_)
  exact h1 _ G1 H1 ((R.step s1 o1).set i d1) s1.exG

/-! ### a list of one's own becomes data -/
def frz (i : Nat) (env : EnvM) : EnvM := match env[i]? with
  | some (some (.own xs)) => env.set i (some (.d (.list xs)))
  | _ => env
def mFrz (i : Nat) (m : EnvM → Bag → SRes) : EnvM → Bag → SRes := fun env B => m (frz i env) B
theorem Rel.freeze {K : Fg} {w : Wd} {G0 H0 : Hp} {σ : L2.St} {env : EnvM} {G H : Hp} {B : Bag} (R : Rel K w G0 H0 σ env G H B) (i : Nat) : ∃ G', Sub G G' ∧ Rel K w G0 H0 σ (frz i env) G' H B := by
  unfold frz
  split
  · rename_i xs q
    obtain ⟨p, vs, h1, g, h0, nb, hp, r⟩ := own_at R q
    have sg : Sub G (upd G p (.lst vs)) := sub_upd g
    refine ⟨upd G p (.lst vs), sg, ?_⟩
    have hi : i < env.length := (List.getElem?_eq_some_iff.mp q).1
    refine ⟨R.ok.freeze nb hp, R.ent.freeze g h0, by rw [List.length_set]; exact R.len, fun j sv ej => ?_, fun j k sj sk z hjk ej oj ek ok => ?_⟩
    · by_cases hij : i = j
      · subst hij
        rw [List.getElem?_set_self hi] at ej
        cases ej
        exact ⟨_, h1, .lst upd_same (r.mono sg)⟩
      · rw [List.getElem?_set_ne hij] at ej
        obtain ⟨v, e1, e2⟩ := R.slot j sv ej
        refine ⟨v, e1, ?_⟩
        cases sv with
        | d x => exact DR.mono sg e2
        | bag => exact e2
        | own ys =>
          obtain ⟨p', us, e3, g', h0', hb', hp', r'⟩ := e2
          subst e3
          have npp : p' ≠ p := fun z => by
            subst z
            exact R.dist i j _ _ p' hij q rfl ej rfl h1 e1
          exact ⟨p', us, rfl, by rw [upd_ne npp]; exact g', h0', hb', hp', r'.mono sg⟩
    · have back : ∀ (j : Nat) (sj : SV), (env.set i (some (.d (.list xs))))[j]? = some (some sj) → sj.isOwn = true → env[j]? = some (some sj) := fun j sj ej oj => by
        by_cases hij : i = j
        · subst hij
          rw [List.getElem?_set_self hi] at ej
          cases ej; cases oj
        · rw [List.getElem?_set_ne hij] at ej; exact ej
      exact R.dist j k sj sk z hjk (back j sj ej oj) oj (back k sk ek ok) ok
  · exact ⟨G, Sub.refl G, R⟩
theorem sds_frz (i : Nat) {sts : List Stmt} {t : TS} {m : EnvM → Bag → SRes} (h : SDs X W sts t m) : SDs X W sts t (mFrz i m) := by
  refine ⟨h.pe, fun w G0 H0 σ env G H B D R hp => ?_⟩
  obtain ⟨G', s, R'⟩ := R.freeze i
  exact h.sem w G0 H0 σ (frz i env) G' H B D R' (PostS.sub s hp)

/-! ### defs -/
def SpF (K : Fg) (mg : Str → Option Value) (np : Nat) (m : List SV → Bag → Res PD) : Sp := fun vs H Q E => vs.length = np ∧ ∃ (w : Wd) (G : Hp) (B : Bag) (ss : List SV), Ok w G H B ∧ ARs K w G vs ss ∧ PostE K mg w G H (m ss B) Q (fun _ _ _ => False)
theorem ARs.length {K : Fg} {w : Wd} {G : Hp} : ∀ {vs : List V} {ss : List SV}, ARs K w G vs ss → vs.length = ss.length
  | _, _, .nil => rfl
  | _, _, .cons _ r => by rw [List.length_cons, List.length_cons, ARs.length r]
theorem ARs.get {K : Fg} {w : Wd} {G : Hp} : ∀ {vs : List V} {ss : List SV} {i : Nat} {s : SV}, ARs K w G vs ss → ss[i]? = some s → ∃ v, vs[i]? = some v ∧ AR K w G v s
  | _, _, _, _, .nil, h => by simp at h
  | _, _, 0, _, .cons (v := v) h r, e => by
    rw [List.getElem?_cons_zero] at e
    cases e
    exact ⟨v, by rw [List.getElem?_cons_zero], h⟩
  | _, _, i + 1, _, .cons h r, e => by
    rw [List.getElem?_cons_succ] at e
    obtain ⟨v, h1, h2⟩ := ARs.get r e
    exact ⟨v, by rw [List.getElem?_cons_succ]; exact h1, h2⟩
def env0 (n : Nat) (ss : List SV) : EnvM := ss.map some ++ List.replicate (n - ss.length) none
def resOf : SRes → Res PD
  | .nx _ B => .ok .none B
  | .ret d B => .ok d B
  | .exc c as B => .exc c as B
  | _ => .bad
def mFn (n : Nat) (m : EnvM → Bag → SRes) : List SV → Bag → Res PD := fun ss B => resOf (m (env0 n ss) B)
theorem start_rel {K : Fg} {w : Wd} {G H : Hp} {B : Bag} {N : List Str} {vs : List V} {ss : List SV} (o : Ok w G H B) (r : ARs K w G vs ss) : Rel K w G H (L2.start N vs) (env0 N.length ss) G H B := by
  have rl := r.length
  have get : ∀ (i : Nat) (sv : SV), (env0 N.length ss)[i]? = some (some sv) → ss[i]? = some sv := fun i sv e => by
    unfold env0 at e
    by_cases hi : i < ss.length
    · rw [List.getElem?_append_left (by simpa using hi), List.getElem?_map] at e
      cases q : ss[i]? with
      | none => rw [q] at e; cases e
      | some s => rw [q] at e; cases e; rfl
    · rw [List.getElem?_append_right (by simpa using hi), List.getElem?_replicate] at e
      split at e <;> cases e
  have noOwn : ∀ (i : Nat) (sv : SV), (env0 N.length ss)[i]? = some (some sv) → sv.isOwn = true → False := fun i sv e ow => by
    obtain ⟨v, _, h2⟩ := r.get (get i sv e)
    cases sv with
    | own xs => exact h2
    | d x => cases ow
    | bag => cases ow
  refine ⟨o, Step.refl, by unfold env0 L2.start; simp [rl], fun i sv e => ?_, fun i j si sj p _ e1 o1 _ _ => (noOwn i si e1 o1).elim⟩
  have e1 := get i sv e
  obtain ⟨v, h1, h2⟩ := r.get e1
  refine ⟨v, ?_, ?_⟩
  · unfold L2.start
    have hi : i < vs.length := (List.getElem?_eq_some_iff.mp h1).1
    rw [List.getElem?_append_left (by simpa using hi), List.getElem?_map, h1]
    rfl
  · cases sv with
    | d x => exact h2
    | own xs => exact h2.elim
    | bag => exact h2
abbrev BX (P : Program) (w : World) (K : Fg) (mg : Str → Option Value) (base : Heap) (N : List Str) (x : Str) (st : Stmt) (f : Addr) (cdv : Value) (A : Around) (outer : List Env) (s : Shared) (H : Hp) (E : XK) : Cx := (cxOf C8.CX0 P w K mg base N x (fnScope st) f cdv A outer s H E).nox
theorem def_ok {P : Program} {w : World} {K : Fg} {mg : Str → Option Value} {base : Heap} {x : Str} {st : Stmt} {f : Addr} {fd : FuncData} {N ps : List Str} {k n : Nat} {m : EnvM → Bag → SRes} (F : Def K mg x st f fd) (b : Binds K fd ps []) (S : FnScope N ps (fnScope st)) (hn : n = ps.length)
    (hbody : ∀ (cdv : Value) (A : Around) (outer : List Env) (s : Shared) (H : Hp) (E : XK), Room k (A.deeper (PyProof.Rows.envOfC x (fnScope st) s.heap.objs.size f cdv)) → ∃ t, SDs (BX P w K mg base N x st f cdv A outer s H E) W0 (fnBody st) t m) :
    Cal P w K mg base (k + 1) x (SpF K mg n (mFn N.length m)) [] := by
  subst hn
  refine cal0 F b .nil S (fun vs H Q E h => h.1) fun cdv A outer s H vs Q E hr h => ?_
  obtain ⟨hl, w, G, B, ss, o, r, q⟩ := h
  obtain ⟨t, ht⟩ := hbody cdv A outer s H E hr
  refine ⟨t, ht.pe, ht.sem w G H (L2.start N vs) (env0 N.length ss) G H B _ (start_rel o r) ?_⟩
  unfold mFn at q
  cases e : m (env0 N.length ss) B with
  | nx env' B' => rw [e] at q; exact fun σ' G' H' R' s' => q .non G' H' R'.ent R'.ok .non
  | ret d B' => rw [e] at q; exact q
  | exc c as B' => rw [e] at q; exact fun σ' => q
  | bk env' B' => rw [e] at q; exact q.elim
  | ct env' B' => rw [e] at q; exact q.elim
  | bad => rw [e] at q; exact q.elim
def mCall (np : Nat) (m : List SV → Bag → Res PD) (ma : EnvM → Bag → Res (List SV)) : EnvM → Bag → Res PD := fun env B => (ma env B).bind fun ss B1 => if ss.length = np then (match m ss B1 with
  | .ok d B2 => .ok d B2
  | _ => .bad) else .bad
theorem ed_def {k j np : Nat} {x : Str} {e : Expr} {es : List Expr} {t : TA} {m : List SV → Bag → Res PD} {ma : EnvM → Bag → Res (List SV)} {p pos : Pos} (c : Cal X.prog X.w X.K X.mg X.base k x (SpF X.K X.mg np m) []) (hr : Room j X.A) (hk : k ≤ j) (ha : AD X W (e :: es) t ma) (hg : Gl X x := by rfl)
    (hdb : (x == ("__debug__" : Str)) = false := by decide) (he : starEach (e :: es) X.env = (false, eval e X.env) :: starEach es X.env := by rfl) (hpl : (backTo pos (starEach es X.env)).any (·.1) = false := by rfl) :
    ED X W (.Call (.Name x p) (e :: es) [] pos) (tCall (SpF X.K X.mg np m) [] C8.E0 t) (mCall np m ma) := by
  refine ⟨pe_c c hr hk hg ha.pe hdb he hpl, fun w G0 H0 σ env G H B Q R h => ?_⟩
  refine ha.sem w G0 H0 σ env G H B _ R (PostR.bind h fun ss B1 vs G1 H1 s1 o1 d1 h1 => ?_)
  rw [List.append_nil]
  by_cases hl : ss.length = np
  · rw [if_pos hl] at h1
    refine ⟨by rw [d1.length]; exact hl, w, G1, B1, ss, o1, d1, ?_⟩
    cases z : m ss B1 with
    | ok d B2 => rw [z] at h1; exact h1
    | exc c as B2 => rw [z] at h1; exact h1.elim
    | bad => rw [z] at h1; exact h1.elim
  · rw [if_neg hl] at h1; exact h1.elim
end
end DL
set_option Elab.async false
set_option linter.all false
set_option maxRecDepth 100000
set_option maxHeartbeats 2000000
/-! DL6: the rules whose transformer names the fragment, with the fragment given (so that they serve within a comprehension's block). -/
namespace DL
open PySem L2 C8
abbrev rLenK (K : Fg) : List V → Hp → VK → Prop := fun xs H Q => ∃ x n, xs = [x] ∧ LenV K x H n ∧ Q (.int n) H
abbrev rAbs : List V → Hp → VK → Prop := fun xs H Q => ∃ i, xs = [.int i] ∧ Q (.int (if i < 0 then -i else i)) H
abbrev rInt1 : List V → Hp → VK → Prop := fun xs H Q => (∃ i, xs = [.int i] ∧ Q (.int i) H) ∨ ∃ k, xs = [.bl k] ∧ Q (.int (if k then 1 else 0)) H
abbrev rListK (K : Fg) : List V → Hp → VK → Prop := fun xs H Q => ∃ p ys, xs = [.ref p] ∧ (SqL K H p ys ∨ SqT K H p ys) ∧ ∀ l, H l = none → Q (.ref l) (upd H l (.lst ys))
abbrev rTupleK (K : Fg) : List V → Hp → VK → Prop := fun xs H Q => ∃ p ys, xs = [.ref p] ∧ ((SqL K H p ys ∧ ∀ l, H l = none → Q (.ref l) (upd H l (.tup ys))) ∨ (SqT K H p ys ∧ Q (.ref p) H))
section
variable {X : Cx} {W : WX}
theorem td_truK (K : Fg) {t : TE} {e : Expr} {m : EnvM → Bag → Res PD} (h : ED X W e t m) (he : ∀ whole, isTrue e X.env whole = (do let v ← whole; standAt e.pos; holding [v] (truthy v)) := by intro _; rfl) (hK : X.K = K := by rfl) : TD X W e (tTruth K t) (mTru truP m) := by
  subst hK; exact td_tru h he
theorem ed_addK (K : Fg) {a b : Expr} {ta tb : TE} {ma mb : EnvM → Bag → Res PD} {pos : Pos} (ha : ED X W a ta ma) (hb : ED X W b tb mb) (hK : X.K = K := by rfl) : ED X W (.BinOp a .Add b pos) (tOp (rAddU K) ta tb) (mOp addP ma mb) := by
  subst hK; exact ed_add ha hb
theorem ed_ixK (K : Fg) {a b : Expr} {ta tb : TE} {ma mb : EnvM → Bag → Res PD} {pos : Pos} (ha : ED X W a ta ma) (hb : ED X W b tb mb) (hs : PlainIx b := by exact fun _ _ => rfl) (hK : X.K = K := by rfl) : ED X W (.Subscript a b pos) (tOp (rIx K) ta tb) (mOp ixP ma mb) := by
  subst hK; exact ed_ix ha hb hs
theorem ed_sliceK (K : Fg) {e : Expr} {lo hi : Option Expr} {t : TE} {tl th : TO} {m : EnvM → Bag → Res PD} {ml mh : EnvM → Bag → Res (Option Int)} {pos p2 : Pos} (he : ED X W e t m) (hl : OD X W lo tl ml) (hh : OD X W hi th mh) (hK : X.K = K := by rfl) :
    ED X W (.Subscript e (.Slice lo hi none p2) pos) (tSl (rSlU K) t tl th) (mSl m ml mh) := by
  subst hK; exact ed_slice he hl hh
theorem ed_isiK (K : Fg) {e : Expr} {t : TE} {m : EnvM → Bag → Res PD} {T : String} {f : PD → Bool} {x : Str} {p p2 pos : Pos} (hf : ∀ d, kitB (tyN d) T = some (f d)) (hm : X.mg "isinstance" = none) (hmT : X.mg x = none) (he : ED X W e t m) (hv : bootBuiltins x = some (.type T)) (hg : Gl X "isinstance" := by rfl) (hgT : Gl X x := by rfl)
    (hn : x ≠ "__name__" := by decide) (hd : (x == ("__debug__" : Str)) = false := by decide)
    (h1 : starEach [e, .Name x p2] X.env = (false, eval e X.env) :: starEach [.Name x p2] X.env := by rfl) (h2 : starEach [.Name x p2] X.env = (false, eval (.Name x p2) X.env) :: starEach [] X.env := by rfl) (hpl : (backTo pos (starEach [.Name x p2] X.env)).any (·.1) = false := by rfl) (hK : X.K = K := by rfl) :
    ED X W (.Call (.Name "isinstance" p) [e, .Name x p2] [] pos) (tCB (rIsi K) (tCons t (tCons (tC (.ty T)) tNil))) (mIsi f m) := by
  subst hK; exact ed_isi hf hm hmT he hv hg hgT hn hd h1 h2 hpl
theorem ed_isi2K (K : Fg) {e : Expr} {t : TE} {m : EnvM → Bag → Res PD} {T T' : String} {f g : PD → Bool} {x y : Str} {p p2 p3 pt pos : Pos} {k} (hf : ∀ d, kitB (tyN d) T = some (f d)) (hg' : ∀ d, kitB (tyN d) T' = some (g d)) (hm : X.mg "isinstance" = none) (hmT : X.mg x = none) (hmT' : X.mg y = none) (he : ED X W e t m)
    (hv : bootBuiltins x = some (.type T)) (hv' : bootBuiltins y = some (.type T')) (hg : Gl X "isinstance" := by rfl) (hgT : Gl X x := by rfl) (hgT' : Gl X y := by rfl)
    (hn : x ≠ "__name__" := by decide) (hd : (x == ("__debug__" : Str)) = false := by decide) (hn' : y ≠ "__name__" := by decide) (hd' : (y == ("__debug__" : Str)) = false := by decide)
    (h1 : starEach [e, .Tuple [.Name x p2, .Name y p3] k pt] X.env = (false, eval e X.env) :: starEach [.Tuple [.Name x p2, .Name y p3] k pt] X.env := by rfl)
    (h2 : starEach [.Tuple [.Name x p2, .Name y p3] k pt] X.env = (false, eval (.Tuple [.Name x p2, .Name y p3] k pt) X.env) :: starEach [] X.env := by rfl)
    (h3 : starEach [.Name x p2, .Name y p3] X.env = (false, eval (.Name x p2) X.env) :: starEach [.Name y p3] X.env := by rfl) (h4 : starEach [.Name y p3] X.env = (false, eval (.Name y p3) X.env) :: starEach [] X.env := by rfl)
    (hpl : (backTo pos (starEach [.Tuple [.Name x p2, .Name y p3] k pt] X.env)).any (·.1) = false := by rfl) (hK : X.K = K := by rfl) :
    ED X W (.Call (.Name "isinstance" p) [e, .Tuple [.Name x p2, .Name y p3] k pt] [] pos) (tCB (rIsiT K) (tCons t (tCons (tTup (tCons (tC (.ty T)) (tCons (tC (.ty T')) tNil))) tNil))) (mIsi2 f g m) := by
  subst hK; exact ed_isi2 hf hg' hm hmT hmT' he hv hv' hg hgT hgT' hn hd hn' hd' h1 h2 h3 h4 hpl
theorem wi_seqK (K : Fg) {tg e : Expr} {t : TE} {m : EnvM → Bag → Res PD} (h : ED X W e t m) (hK : X.K = K := by rfl) : WI X W tg e (fun σ H R => iList K t σ H R ∨ iTup K t σ H R) (mSeqOf m) := by
  subst hK; exact wi_seq h
theorem gt_tupK (K : Fg) {es : List Expr} {k : Nat} {g : TGs} {mr : List PD → EnvM → Option EnvM} {js : List Nat} {n : Nat} {pos : Pos} (hc : X.calm = true) (h : GTs X es g mr js)
    (hn : (assignEach es X.env).length = n := by rfl) (hst : (assignEach es X.env).findIdx? (·.1) = none := by rfl) (hK : X.K = K := by rfl) : GT X (.Tuple es k pos) (gTup K n g) (mgTup mr n) js := by
  subst hK; exact gt_tup hc h hn hst
theorem ed_defK (K : Fg) (mg : Str → Option Value) {k j np : Nat} {x : Str} {e : Expr} {es : List Expr} {t : TA} {m : List SV → Bag → Res PD} {ma : EnvM → Bag → Res (List SV)} {p pos : Pos} (c : Cal X.prog X.w K mg X.base k x (SpF K mg np m) []) (hr : Room j X.A) (hk : k ≤ j) (ha : AD X W (e :: es) t ma) (hg : Gl X x := by rfl)
    (hdb : (x == ("__debug__" : Str)) = false := by decide) (he : starEach (e :: es) X.env = (false, eval e X.env) :: starEach es X.env := by rfl) (hpl : (backTo pos (starEach es X.env)).any (·.1) = false := by rfl) (hK : X.K = K := by rfl) (hM : X.mg = mg := by rfl) :
    ED X W (.Call (.Name x p) (e :: es) [] pos) (tCall (SpF K mg np m) [] C8.E0 t) (mCall np m ma) := by
  subst hK hM; exact ed_def c hr hk ha hg hdb he hpl
theorem ed_ixOwnK (K : Fg) (i : Nat) {x : Str} {e : Expr} {t : TE} {m : EnvM → Bag → Res PD} {p1 pos : Pos} (he : ED X W e t m) (hs : PlainIx e := by exact fun _ _ => rfl) (hN : X.N[i]? = some x := by rfl) (hv : Vis X.env.scope x := by first | exact Or.inl rfl | exact Or.inr (Or.inl rfl) | exact Or.inr (Or.inr rfl)) (hd : (x == ("__debug__" : Str)) = false := by decide)
    (hcd : (x == ("__classdict__" : Str)) = false := by decide) (hK : X.K = K := by rfl) : ED X W (.Subscript (.Name x p1) e pos) (tOp (rIxL K) (tVar i) t) (mIxOwn i m) := by
  subst hK; exact ed_ixOwn i he hs hN hv hd hcd
theorem ed_bagK (K : Fg) (i k : Nat) {x : Str} {j : Nat} {p1 p2 pos : Pos} (hN : X.N[i]? = some x := by rfl) (hv : Vis X.env.scope x := by first | exact Or.inl rfl | exact Or.inr (Or.inl rfl) | exact Or.inr (Or.inr rfl)) (hd : (x == ("__debug__" : Str)) = false := by decide)
    (hcd : (x == ("__classdict__" : Str)) = false := by decide) (hK : X.K = K := by rfl) : ED X W (.Subscript (.Name x p1) (.Constant (.int (k : Int)) j p2) pos) (tOp (rIxL K) (tVar i) (tC (.int (k : Int)))) (mBagIx i k) := by
  subst hK; exact ed_bag i k hN hv hd hcd
theorem ed_listZipK (K : Fg) {e e2 : Expr} {t : TA} {m : EnvM → Bag → Res (List SV)} {p0 p pos pos0 : Pos} (hc : X.calm = true) (hm0 : X.mg "list" = none) (hm : X.mg "zip" = none) (ha : AD X W [e, e2] t m) (hg0 : Gl X "list" := by rfl) (hg : Gl X "zip" := by rfl)
    (hs0 : starEach [.Call (.Name "zip" p) [e, e2] [] pos] X.env = (false, eval (.Call (.Name "zip" p) [e, e2] [] pos) X.env) :: starEach [] X.env := by rfl)
    (hs : starEach [e, e2] X.env = (false, eval e X.env) :: starEach [e2] X.env := by rfl) (hpl : (backTo pos (starEach [e2] X.env)).any (·.1) = false := by rfl) (hK : X.K = K := by rfl) :
    ED X W (.Call (.Name "list" p0) [.Call (.Name "zip" p) [e, e2] [] pos] [] pos0) (ZL.tListZip K t) (mCa zipP m) := by
  subst hK; exact ed_listZip hc hm0 hm ha hg0 hg hs0 hs hpl
end
end DL
set_option Elab.async false
set_option linter.all false
set_option maxRecDepth 100000
set_option maxHeartbeats 4000000
/-! DL7: set(..) of a list or a tuple of ints, t[::-1], len and sorted of a dict comprehension of marks. -/
namespace DL
open PySem PySem.Spec PyProof.Rows L2 HT
section
variable {P : Program} {w : World} {A : Around} {E : Value → Shared → Prop} {s : Shared}
/- the way of the library's rule for a tuple, for a list -/
set_option maxHeartbeats 3200000 in
theorem call_set_lstI {l : Addr} {items : Array Value} (ns : List Int) {Q : Value → Shared → Prop} (hh : A.handled = none) (hl : s.heap.IsList l items) (hit : IntsAre items.toList ns) (hb : ns.length + 1 < scanBound)
    (h : ∀ (h' : Heap) (tk c : Nat), SetR w h' s.heap.objs.size (fun j => decide (j ∈ ns)) c → c ≤ ns.length → (∀ b o, s.heap.get? b = some o → h'.get? b = some o) → Q (.ref s.heap.objs.size) { s with heap := h', toks := tk }) :
    wpAny (model P w) A (call (.type "set") [.ref l]) Q E s := by
  have hisz : items.size = ns.length := by
    have q := IntsAre.length hit
    rw [Array.length_toList] at q
    exact q
  obtain ⟨c, tl, hmro⟩ := F.called_set.mro
  have hmade := F.called_set.made
  have hsub := F.called_set.sub
  refine wpAny_call (codeAny_of_tree ?_)
  show wpAny _ _ (callAny (.type "set") _) _ _ _
  refine wpAny_pure ⟨Code.quiet_builtin _ (by decide +kernel), codeAny_builtin F.entry_type_call ?_⟩
  rw [Around.under_plain (weight_type_call_type "set" [.ref l] []) rfl]
  have h1 := F.called_set.notType
  have h2 := F.called_set.canCreate
  have hct := F.typeCall_set_1 (.ref l)
  repeat (any_goals (first | assumption | wp_step))

  refine codeAny_mono (code_set_led1 (.ref l) (E := E) (Q₁ := fun obj s₁ => obj = .ref s.heap.objs.size ∧ s₁ = { s with heap := s.heap.push { cls := .type "set", dict := none, data := .set #[] 0 (.fresh 0 0 (!w.params.followText "set-order")) } }) ⟨rfl, rfl⟩) fun r s₁ hr => ?_
  cases r with
  | error e => exact hr
  | ok fl =>
    cases fl with
    | ret obj =>
      obtain ⟨rfl, rfl⟩ := hr
      have hS : (s.heap.push { cls := .type "set", dict := none, data := .set #[] 0 (.fresh 0 0 (!w.params.followText "set-order")) }).get? s.heap.objs.size = some { cls := .type "set", dict := none, data := .set #[] 0 (.fresh 0 0 (!w.params.followText "set-order")) } := Heap.get?_push_size _ rfl
      have hT : Shared.TypeIs { s with heap := s.heap.push { cls := .type "set", dict := none, data := .set #[] 0 (.fresh 0 0 (!w.params.followText "set-order")) } } (.ref s.heap.objs.size) "set" := ⟨_, hS, rfl⟩
      have hli := F.called_set.init.lookup
      have hbi := F.called_set.init.bind (.ref s.heap.objs.size)
      repeat (any_goals (first | assumption | wp_step))

      refine codeAny_mono (codeAny_call_builtin (R := wants (fun r s₂ => r = .none ∧ ∃ h' tk c, s₂ = { s with heap := h', toks := tk } ∧ SetR w h' s.heap.objs.size (fun j => decide (j ∈ ns)) c ∧ c ≤ ns.length ∧
          (∀ b o, s.heap.get? b = some o → h'.get? b = some o)) E) F.called_set.init.plain F.entry_set_init (check_set_init_1 hT ?_)) fun r₂ s₂ hr₂ => ?_
      · obtain ⟨ol, hol, hcl, nl, hdl⟩ := hl
        obtain ⟨ocls, odict, odata, oslots⟩ := ol
        simp only at hcl hdl
        subst hcl; subst hdl
        have hol' : (s.heap.push { cls := .type "set", dict := none, data := .set #[] 0 (.fresh 0 0 (!w.params.followText "set-order")) }).get? l = some { cls := .type "list", dict := odict, data := .seq items nl, slots := oslots } := Heap.get?_push_of_some _ hol
        have hsls := F.sub_list_set
        have hslf := F.sub_list_frozenset
        have hne : (Value.type "list" == Value.type "dict") = false := by decide
        have hl1 : (s.heap.push { cls := .type "set", dict := none, data := .set #[] 0 (.fresh 0 0 (!w.params.followText "set-order")) }).IsList l items := ⟨_, hol', rfl, nl, rfl⟩
        unfold Builtin.«set.__init__» noKeywords Builtin.Frozenset.updateFrom
        generalize hPI : pyIter = PI
        wp_walk
        subst hPI

        refine wpAny_pyIter_list hl1 ?_
        refine wpAny_bind (wpAny_runValue ?_)
        have hlS : l < s.heap.objs.size := Heap.lt_size hol
        have hh3 : A.in1.in1.in1.handled = none := by simp [hh]
        have hz1 : (s.heap.push { cls := .type "set", dict := none, data := .set #[] 0 (.fresh 0 0 (!w.params.followText "set-order")) }).objs.size = s.heap.objs.size + 1 := Heap.size_push ..
        have hneI : l ≠ (s.heap.push { cls := .type "set", dict := none, data := .set #[] 0 (.fresh 0 0 (!w.params.followText "set-order")) }).objs.size := by
          rw [Heap.size_push]; exact Nat.ne_of_lt (Nat.lt_succ_of_lt hlS)
        have hSf : s.heap.objs.size ∉ [(s.heap.push { cls := .type "set", dict := none, data := .set #[] 0 (.fresh 0 0 (!w.params.followText "set-order")) }).objs.size, l] := by
          rw [Heap.size_push]; simp only [List.mem_cons, List.mem_singleton, List.not_mem_nil, or_false, not_or]
          exact ⟨Nat.ne_of_lt (Nat.lt_succ_self _), Nat.ne_of_gt hlS⟩
        have hval : ∀ (i : Nat) (v : Value), items[i]? = some v → ∃ k t, ns[i]? = some k ∧ v = .int k t := fun i v hv => by
          have hi : i < ns.length := by rw [← hisz]; exact (Array.getElem?_eq_some_iff.mp hv).1
          obtain ⟨t, e⟩ := PyProof.Rows.IntsAre.int_at hit i v (by rw [Array.getElem?_toList]; exact hv)
          refine ⟨ns[i], t, List.getElem?_eq_getElem hi, ?_⟩
          rw [e, List.getD_eq_getElem?_getD, List.getElem?_eq_getElem hi] <;> rfl
        refine set_update_ints ((PySem.Walks.list hh3 _ l hneI items).toS) s.heap.objs.size
          hSf ns hisz hb hval (items.size - 0) 0 _ (by omega) (Nat.zero_le _)
          ⟨⟨_, Heap.get?_push_size _ rfl, rfl, rfl⟩, (hl1.push _)⟩ ?hS0 ?hR
        case hS0 =>
          have hget : ((s.heap.push { cls := .type "set", dict := none, data := .set #[] 0 (.fresh 0 0 (!w.params.followText "set-order")) }).push { cls := .type "list_iterator", data := .fields #[.ref l, .int 0 0] }).get? s.heap.objs.size
              = some { cls := .type "set", dict := none, data := .set #[] 0 (.fresh 0 0 (!w.params.followText "set-order")) } := Heap.get?_push_of_some _ hS
          exact ⟨0, Nat.le_refl 0, setR_new_at hget⟩
        case hR =>
          intro s' c' hm hc' hS'
          obtain ⟨h', g2, d', tk', os'⟩ := s'
          have eg : g2 = s.gens := hm.gens
          have ed : d' = s.drawn := hm.drawn
          have eo : os' = s.os := hm.os
          subst eg; subst ed; subst eo
          show wpAny _ _ _ _ _ _
          refine wpAny_pure ?_
          show wpAny _ _ (ret Value.none) _ _ _
          rw [hisz] at hc'
          refine wpAny_pure ⟨rfl, h', tk', c', rfl, hS', hc', fun b o e => ?_⟩
          have hb0 : b < s.heap.objs.size := Heap.lt_size e
          have hb1 : b ≠ s.heap.objs.size := Nat.ne_of_lt hb0
          have hb2 : b ≠ (s.heap.push { cls := .type "set", dict := none, data := .set #[] 0 (.fresh 0 0 (!w.params.followText "set-order")) }).objs.size := by
            rw [Heap.size_push]; exact Nat.ne_of_lt (Nat.lt_succ_of_lt hb0)
          exact hm.heap b o (by simp only [List.mem_cons, List.mem_singleton, List.not_mem_nil, or_false, not_or]; exact ⟨hb1, hb2⟩) (Heap.get?_push_of_some _ (Heap.get?_push_of_some _ e))

      · cases r₂ with
        | error e => exact hr₂
        | ok fl₂ =>
          cases fl₂ with
          | ret r =>
            obtain ⟨rfl, h', tk, c', rfl, hS', hc', hk'⟩ := hr₂
            repeat (any_goals (first | assumption | wp_step))
            exact h _ _ _ hS' hc' hk'
          | _ => exact hr₂.elim
    | _ => exact hr.elim

end
/-! ### t[::-1] -/
section
variable {prog : Program} {w : World} {A : Around} {E : Value → Shared → Prop} {s : Shared}
theorem rev_applied {sl : Addr} {vs : Value} {n : Nat} {Q : Int × Int × Nat → Shared → Prop} (hs : s.heap.IsSliceOf sl .none .none vs) (ps : IsPart vs (some (-1)))
    (h : Q ((n : Int) - 1, -1, n) s) : wpAny (model prog w) A (Builtin.Slice.sliceApplied (.ref sl) (pure (n : Int))) Q E s := by
  obtain ⟨os, hos, hcs, hds⟩ := id hs
  unfold Builtin.Slice.sliceApplied Builtin.Slice.sliceFields
  refine wpAny_bind (wpAny_bind (wpAny_field hos hds (x := .none) rfl (wpAny_bind (wpAny_field hos hds (x := .none) rfl (wpAny_bind (wpAny_field hos hds (x := vs) rfl (wpAny_pure ?_)))))))
  refine wpAny_bind (slicePart_ ps ?_)
  show wpAny _ _ (if ((-1 : Int) == 0) = true then _ else _) _ _ s
  rw [if_neg (by decide)]
  refine wpAny_bind (slicePart_ .none (wpAny_bind (slicePart_ .none (wpAny_bind (wpAny_pure ?_)))))
  have e : Builtin.Slice.sliceAdjust none none (-1) (n : Int) = ((n : Int) - 1, -1) := rfl
  show wpAny _ _ (match Builtin.Slice.sliceAdjust none none (-1) (n : Int) with | (lo, hi) => pure (lo, (-1 : Int), Builtin.Slice.slicePlaces lo hi (-1))) _ _ s
  rw [e]
  show wpAny _ _ (pure ((n : Int) - 1, (-1 : Int), Builtin.Slice.slicePlaces ((n : Int) - 1) (-1) (-1))) _ _ s
  have e2 : Builtin.Slice.slicePlaces ((n : Int) - 1) (-1) (-1) = n := by
    unfold Builtin.Slice.slicePlaces
    have h1 : ¬ ((-1 : Int) > 0) := by omega
    simp only [h1, if_false]
    split
    · have : ((n : Int) - 1 - -1 - 1) / (- -1) + 1 = (n : Int) := by
        rw [show (- -1 : Int) = 1 by decide, Int.ediv_one]; omega
      rw [this]; omega
    · omega
  rw [e2]
  exact wpAny_pure h
theorem fm_congr {α β : Type} {f g : α → Option β} : ∀ {l : List α}, (∀ x ∈ l, f x = g x) → l.filterMap f = l.filterMap g
  | [], _ => rfl
  | a :: r, h => by
    rw [List.filterMap_cons, List.filterMap_cons, h a List.mem_cons_self, fm_congr fun x hx => h x (List.mem_cons_of_mem _ hx)]
theorem pick_rev (xs : Array Value) : ((List.range xs.size).filterMap fun (m : Nat) => xs[(((xs.size : Int) - 1) + (m : Int) * (-1)).toNat]?).toArray = xs.toList.reverse.toArray := by
  have h := PySem.W.krv_all xs
  have e : ((List.range xs.size).filterMap fun (m : Nat) => xs[(((xs.size : Int) - 1) + (m : Int) * (-1)).toNat]?) = ((List.range xs.size).map fun k => xs.size - 1 - k).filterMap (xs[·]?) := by
    rw [List.filterMap_map]
    refine fm_congr fun m hm => ?_
    have hm := List.mem_range.mp hm
    show _ = xs[xs.size - 1 - m]?
    have : (((xs.size : Int) - 1) + (m : Int) * (-1)).toNat = xs.size - 1 - m := by omega
    rw [this]
  rw [e, PySem.W.krv_range, List.filterMap_reverse, h]
theorem getItem_tuple_rev {t sl : Addr} {items : Array Value} {vs : Value} {Q : Value → Shared → Prop} (ht : IsTup s.heap t items) (hs : s.heap.IsSliceOf sl .none .none vs) (ps : IsPart vs (some (-1)))
    (h : Q (.ref s.heap.objs.size) { s with heap := s.heap.push { cls := .type "tuple", data := .seq items.toList.reverse.toArray } })
    (hsz : items.size ≤ sizeLine) : wpAny (model prog w) A (getItem (.ref t) (.ref sl)) Q E s := by
  have htake : sizeOk (.seq items.toList.reverse.toArray) := by
    show items.toList.reverse.toArray.size ≤ sizeLine
    rw [List.size_toArray, List.length_reverse, Array.length_toList]
    exact hsz
  obtain ⟨os, hos, hcs, hds⟩ := id hs
  have hTs : s.TypeIs (.ref sl) "slice" := ⟨os, hos, hcs⟩
  unfold getItem
  try with_reducible refine wpAny_holding ?_
  first | refine wpAny_bind (wpAny_pure ?_) | skip
  refine wpAny_bind (wpAny_sequenceKey ht.typeIs (by decide) ?_)
  refine wpAny_bind (wpAny_callSpecial?_slot (name := Str.ofString "__getitem__") ht.typeIs PyProof.Rows.slot_tuple_getitem
    (wpAny_call_entry PyProof.Rows.slot_tuple_getitem ht.typeIs entry_tuple_getitem ?_ (args_tuple_getitem _ _)))
  show wpAny _ _ (Builtin.Tuple.tupleItemsOf (.ref t) >>= _) _ _ s
  refine wpAny_bind (tupleItemsOf_ ht ?_)
  refine wpAny_bind (wpAny_typeOf hTs ?_)
  rw [if_pos (by decide)]
  refine wpAny_bind (rev_applied hs ps ?_)
  have hno : ¬ ((((items.size : Int) - 1) == 0 && (-1 : Int) == 1 && items.size == items.size) = true) := by
    intro q
    rw [Bool.and_eq_true, Bool.and_eq_true] at q
    exact absurd q.1.2 (by decide)
  show wpAny _ _ (if (((items.size : Int) - 1) == 0 && (-1 : Int) == 1 && items.size == items.size) = true then _ else _) _ _ s
  rw [if_neg hno, pick_rev]
  first
    | exact wpAny_bind (m := Builtin.Tuple.tupleExact _) (wpAny_newObj_type (wpAny_pure ⟨_, rfl, wpAny_pure h⟩) htake)
    | exact wpAny_bind (m := Builtin.Tuple.tupleExact _) (wpAny_newObj_type (wpAny_bind (wpAny_pure (wpAny_pure ⟨_, rfl, wpAny_pure h⟩))) htake)
    | exact wpAny_bind (wpAny_bind (m := Builtin.Tuple.tupleExact _) (wpAny_newObj_type (wpAny_pure (wpAny_pure ⟨_, rfl, wpAny_pure h⟩)) htake))
    | exact wpAny_bind (wpAny_bind (m := Builtin.Tuple.tupleExact _) (wpAny_newObj_type (wpAny_pure ⟨_, rfl, wpAny_pure h⟩) htake))
end
section
variable {X : Cx} {W : WX}
def tRevT (K : Fg) (te : TE) : TE := fun σ H Q => te σ H fun x H1 => ∃ a xs, x = .ref a ∧ SqT K H1 a xs ∧ ∀ p, H1 p = none → Q (.ref p) (upd H1 p (.tup xs.reverse))
theorem pe_revT {e : Expr} {te : TE} {k : Nat} {p1 p2 p3 pos : Pos} (he : PE X e te) : PE X (.Subscript e (.Slice none none (some (.UnaryOp .USub (.Constant (.int 1) k p1) p2)) p3) pos) (tRevT X.K te) := by
  refine ⟨fun pins s σ H Q I h => ?_⟩
  refine Subscript_ (thn (he.run pins s σ H _ I h) fun v s1 ⟨x, H1, I1, r1, q1⟩ => ?_)
  obtain ⟨a, xs, ex, hx, q⟩ := q1
  subst ex
  cases r1
  have hst : PO X (some (.UnaryOp .USub (.Constant (.int 1) k p1) p2)) (tPart (tUn (rU fun i => .int (-i)) (tC (.int 1)))) := po_some (pe_un un_neg pe_int)
  refine wpAny_Slice (thn (po_none.run pins s1 σ H1 (fun o H2 => o = none ∧ H2 = H1) I1 ⟨rfl, rfl⟩) fun vl s2 ⟨l, H2, I2, pl, el, e2⟩ => ?_)
  subst el e2
  refine thn (po_none.run pins s2 σ H2 (fun o H3 => o = none ∧ H3 = H2) I2 ⟨rfl, rfl⟩) fun vu s3 ⟨u, H3, I3, pu, eu, e3⟩ => ?_
  subst eu e3
  refine thn (hst.run pins s3 σ H3 (fun o H4 => o = some (-1) ∧ H4 = H3) I3 ⟨1, rfl, -1, rfl, rfl, rfl⟩) fun vs s4 ⟨o, H4, I4, ps, eo, e4⟩ => ?_
  subst eo e4
  cases pl; cases pu
  have I5 : Inv X pins σ H4 { s4 with heap := s4.heap.push { cls := .type "slice", data := .fields #[.none, .none, vs] } } := I4.kept (t' := s4.toks) fun b ob q => Heap.get?_push_of_some _ q
  obtain ⟨its, r, ht, hz⟩ := I5.tuple hx
  have hlen := r.length
  show wpAny (model X.prog X.w) X.A (subscriptTail e (.Slice none none (some (.UnaryOp .USub (.Constant (.int 1) k p1) p2)) p3) (.ref a) (.ref s4.heap.objs.size)) (EP X pins σ Q) X.xe { s4 with heap := s4.heap.push { cls := .type "slice", data := .fields #[.none, .none, vs] } }
  refine tail_any (ops := [.ref a, .ref s4.heap.objs.size]) ht.typeIs (PyProof.Rows.slot_tuple_getitem.lookup) ?_ (by with_unfolding_all rfl)
  refine getItem_tuple_rev ht (Heap.IsSliceOf.new _ .none .none vs) ps ?_ (by rw [List.size_toArray]; omega)
  refine ⟨.ref _, _, I5.laid (t' := s4.toks) (o := .tup xs.reverse) (fun b ob q => Heap.get?_push_of_some _ q) (Nat.le_refl _) ?_, rfl, q _ (I5.hok.fresh (Nat.le_refl _))⟩
  exact ⟨by rw [List.length_reverse]; exact hz, _, r.reverse, ⟨_, Heap.get?_push_size _ rfl, rfl, _, rfl⟩⟩
def mRev (m : EnvM → Bag → Res PD) : EnvM → Bag → Res PD := fun env B => (m env B).bind fun d B1 => match d with
  | .tuple ds => .ok (.tuple ds.reverse) B1
  | _ => .bad
theorem ed_revK (K : Fg) {e : Expr} {te : TE} {m : EnvM → Bag → Res PD} {k : Nat} {p1 p2 p3 pos : Pos} (he : ED X W e te m) (hK : X.K = K := by rfl) : ED X W (.Subscript e (.Slice none none (some (.UnaryOp .USub (.Constant (.int 1) k p1) p2)) p3) pos) (tRevT K te) (mRev m) := by
  subst hK
  refine ⟨pe_revT he.pe, fun w G0 H0 σ env G H B Q R h => ?_⟩
  refine he.sem w G0 H0 σ env G H B _ R (PostR.bind h fun d B1 v G1 H1 s1 o1 d1 h1 => ?_)
  cases d with
  | tuple ds =>
    cases d1 with
    | tup hx r =>
      exact ⟨_, _, rfl, subT o1.sub hx, fun p hp => h1 _ _ _ (Step.new o1.sub hp) (o1.new hp) (.tup (SqT.of upd_same) ((r.mono (sub_upd (o1.free hp))).reverse))⟩
  | _ => exact (show False from h1).elim

/-! ### sorted(set(..)) of ints -/
def rSetI (K : Fg) (w : World) : List V → Hp → VK → Prop := fun xs H Q => ∃ (l : Addr) (ns : List Int), xs = [V.ref l] ∧ (SqL K H l (ns.map V.int) ∨ SqT K H l (ns.map V.int)) ∧ ns.length + 1 < scanBound ∧ ∀ (p : Addr) (c : Nat), H p = none → c ≤ ns.length → Q (.ref p) (upd H p (SetO w p (fun j => decide (j ∈ ns)) c))
theorem cr_setI (hc : X.calm = true) : CallR X (.type "set") (rSetI X.K X.w) := by
  intro pins s σ H xs us Q I r h
  obtain ⟨l, ns, rfl, hq, hb, q⟩ := h
  obtain ⟨u, rfl, ru⟩ := r.one
  cases ru
  have hd := I.ok.hd hc
  have fin : ∀ (h' : Heap) (tk c : Nat), SetR X.w h' s.heap.objs.size (fun j => decide (j ∈ ns)) c → c ≤ ns.length → (∀ b o, s.heap.get? b = some o → h'.get? b = some o) → EP X pins σ Q (.ref s.heap.objs.size) { s with heap := h', toks := tk } := fun h' tk c R1 hcn k =>
    ⟨.ref s.heap.objs.size, upd H s.heap.objs.size (SetO X.w s.heap.objs.size (fun j => decide (j ∈ ns)) c), I.laid k (Nat.le_refl _) (setO_new R1), rfl, q _ c (I.hok.fresh (Nat.le_refl _)) hcn⟩
  rcases hq with hq | hq
  · obtain ⟨its, rv, pl, hz⟩ := I.list hq
    exact call_set_lstI ns hd pl.isList (ints_of_vals rv) hb fin
  · obtain ⟨its, rv, pt, hz⟩ := I.tuple hq
    exact call_set_tupI ns hd (show s.heap.IsTuple l its.toArray from pt) (ints_of_vals rv) hb fin
def intsOf : List PD → Option (List Int)
  | [] => some []
  | .int i :: r => (intsOf r).map (i :: ·)
  | _ :: _ => none
theorem intsOf_eq : ∀ {ds : List PD} {ns : List Int}, intsOf ds = some ns → ds = ns.map PyData.int
  | [], ns, h => by cases h; rfl
  | .int i :: r, ns, h => by
    unfold intsOf at h
    cases e : intsOf r with
    | none => rw [e] at h; cases h
    | some ms =>
      rw [e] at h
      cases h
      rw [intsOf_eq e]; rfl
  | .none :: _, _, h => by cases h
  | .bool _ :: _, _, h => by cases h
  | .str _ :: _, _, h => by cases h
  | .list _ :: _, _, h => by cases h
  | .tuple _ :: _, _, h => by cases h
  | .dict _ :: _, _, h => by cases h
/-- the ints of ns, each once, rising -/
def riseI (ns : List Int) : List Int := sortI ns.eraseDups
theorem rise_uniq : ∀ {a b : List Int}, a.Pairwise (· < ·) → b.Pairwise (· < ·) → (∀ k, k ∈ a ↔ k ∈ b) → a = b
  | [], [], _, _, _ => rfl
  | [], y :: b, _, _, h => absurd ((h y).mpr List.mem_cons_self) (by simp)
  | x :: a, [], _, _, h => absurd ((h x).mp List.mem_cons_self) (by simp)
  | x :: a, y :: b, ha, hb, h => by
    obtain ⟨ha1, ha2⟩ := List.pairwise_cons.mp ha
    obtain ⟨hb1, hb2⟩ := List.pairwise_cons.mp hb
    have exy : x = y := by
      rcases List.mem_cons.mp ((h x).mp List.mem_cons_self) with e | e
      · exact e
      · rcases List.mem_cons.mp ((h y).mpr List.mem_cons_self) with e' | e'
        · exact e'.symm
        · have := ha1 y e'; have := hb1 x e; omega
    subst exy
    rw [rise_uniq ha2 hb2 fun k => ⟨fun hk => ?_, fun hk => ?_⟩]
    · rcases List.mem_cons.mp ((h k).mp (List.mem_cons_of_mem _ hk)) with e | e
      · subst e; have := ha1 k hk; omega
      · exact e
    · rcases List.mem_cons.mp ((h k).mpr (List.mem_cons_of_mem _ hk)) with e | e
      · subst e; have := hb1 k hk; omega
      · exact e
theorem rise_mem {ns : List Int} {k : Int} : k ∈ riseI ns ↔ k ∈ ns := by
  unfold riseI sortI
  rw [List.mem_mergeSort, List.mem_eraseDups]
theorem nodup_eraseDups : ∀ (n : Nat) (ns : List Int), ns.length ≤ n → ns.eraseDups.Nodup
  | _, [], _ => by simp
  | 0, x :: r, h => by simp at h
  | n + 1, x :: r, h => by
    rw [List.eraseDups_cons, List.nodup_cons]
    refine ⟨fun q => ?_, nodup_eraseDups n _ (Nat.le_trans (List.length_filter_le _ _) (by simpa using h))⟩
    rw [List.mem_eraseDups, List.mem_filter] at q
    simp at q
theorem rise_lt (ns : List Int) : (riseI ns).Pairwise (· < ·) := by
  have h1 : (riseI ns).Pairwise (fun i j => decide (i ≤ j) = true) := List.pairwise_mergeSort (fun a b c h1 h2 => by simp at *; omega) (fun a b => by simp; omega) _
  have h2 : (riseI ns).Nodup := (List.mergeSort_perm _ _).nodup_iff.mpr (nodup_eraseDups _ ns (Nat.le_refl _))
  refine (h1.and h2).imp fun ⟨a, b⟩ => ?_
  have a := of_decide_eq_true a
  omega
theorem rise_eq {ns ms : List Int} (h : ms.Pairwise (· < ·)) (k : ∀ i, i ∈ ms ↔ i ∈ ns) : ms = riseI ns := rise_uniq h (rise_lt ns) fun i => (k i).trans rise_mem.symm
def mSrtSet (m : EnvM → Bag → Res PD) : EnvM → Bag → Res PD := fun env B => (m env B).bind fun d B1 => match d with
  | .list ds => (match intsOf ds with
    | some ns => if ns.length < 64 then .ok (.list ((riseI ns).map PyData.int)) B1 else .bad
    | none => .bad)
  | .tuple ds => (match intsOf ds with
    | some ns => if ns.length < 64 then .ok (.list ((riseI ns).map PyData.int)) B1 else .bad
    | none => .bad)
  | _ => .bad
def tSrtSet (K : Fg) (w : World) (t : TE) : TE := tCB (rSortedSet w) (tCons (tCB (rSetI K w) (tCons t tNil)) tNil)
theorem ed_srtSetK (K : Fg) (w : World) {e : Expr} {t : TE} {m : EnvM → Bag → Res PD} {p p2 pos pos2 : Pos} (hc : X.calm = true) (hm : X.mg "sorted" = none) (hm2 : X.mg "set" = none) (he : ED X W e t m) (hg : Gl X "sorted" := by rfl) (hg2 : Gl X "set" := by rfl)
    (h1 : starEach [.Call (.Name "set" p2) [e] [] pos2] X.env = (false, eval (.Call (.Name "set" p2) [e] [] pos2) X.env) :: starEach [] X.env := by rfl) (hpl : (backTo pos (starEach [] X.env)).any (·.1) = false := by rfl)
    (h2 : starEach [e] X.env = (false, eval e X.env) :: starEach [] X.env := by rfl) (hpl2 : (backTo pos2 (starEach [] X.env)).any (·.1) = false := by rfl) (hK : X.K = K := by rfl) (hw : X.w = w := by rfl) :
    ED X W (.Call (.Name "sorted" p) [.Call (.Name "set" p2) [e] [] pos2] [] pos) (tSrtSet K w t) (mSrtSet m) := by
  subst hK hw
  refine ⟨pe_callB (cr_sortedSet hc) hg hm (by decide +kernel) (pa_cons (pe_callTy (cr_setI hc) hg2 hm2 (by decide +kernel) (pa_cons he.pe pa_nil h2) (by decide) (by decide) h2 hpl2) pa_nil h1) (by decide) (by decide) h1 hpl, fun w G0 H0 σ env G H B Q R h => ?_⟩
  refine he.sem w G0 H0 σ env G H B _ R (PostR.bind h fun d B1 v G1 H1 s1 o1 d1 h1 => ?_)
  have go : ∀ (l : Addr) (ns : List Int), v = .ref l → (SqL X.K H1 l (ns.map V.int) ∨ SqT X.K H1 l (ns.map V.int)) → ns.length < 64 → PostE X.K X.mg w G1 H1 (.ok (.list ((riseI ns).map PyData.int)) B1) Q (fun c d H' => W c d σ H') → rSetI X.K X.w [v] H1 (fun x H2 => rSortedSet X.w [x] H2 Q) := by
    intro l ns e1 hq hl h2
    subst e1
    refine ⟨l, ns, rfl, hq, by unfold scanBound; omega, fun p c hp hcn => ⟨p, _, c, rfl, upd_same, by omega, fun ms q hms hk hlen hq' => ?_⟩⟩
    have e2 : ms = riseI ns := rise_eq hms fun i => by rw [hk i]; simp
    subst e2
    have s2 : Step w G1 H1 G1 (upd H1 p (SetO X.w p (fun j => decide (j ∈ ns)) c)) := Step.newH hp
    have o2 := o1.newH (o := SetO X.w p (fun j => decide (j ∈ ns)) c) hp
    exact h2 _ _ _ (s2.trans (Step.new o2.sub hq')) (o2.new hq') (.lst upd_same (DRs.ints _))
  cases d with
  | list ds =>
    have h1 : PostE X.K X.mg w G1 H1 (match intsOf ds with | some ns => if ns.length < 64 then .ok (.list ((riseI ns).map PyData.int)) B1 else .bad | none => .bad) Q (fun c d H' => W c d σ H') := h1
    cases e : intsOf ds with
    | none => rw [e] at h1; exact h1.elim
    | some ns =>
      rw [e] at h1
      have h1 : PostE X.K X.mg w G1 H1 (if ns.length < 64 then .ok (.list ((riseI ns).map PyData.int)) B1 else .bad) Q (fun c d H' => W c d σ H') := h1
      by_cases hl : ns.length < 64
      · rw [if_pos hl] at h1
        cases d1 with
        | lst hx r =>
          rw [intsOf_eq e] at r
          rw [r.of_ints] at hx
          exact go _ ns rfl (.inl (subL o1.sub hx)) hl h1
      · rw [if_neg hl] at h1; exact h1.elim
  | tuple ds =>
    have h1 : PostE X.K X.mg w G1 H1 (match intsOf ds with | some ns => if ns.length < 64 then .ok (.list ((riseI ns).map PyData.int)) B1 else .bad | none => .bad) Q (fun c d H' => W c d σ H') := h1
    cases e : intsOf ds with
    | none => rw [e] at h1; exact h1.elim
    | some ns =>
      rw [e] at h1
      have h1 : PostE X.K X.mg w G1 H1 (if ns.length < 64 then .ok (.list ((riseI ns).map PyData.int)) B1 else .bad) Q (fun c d H' => W c d σ H') := h1
      by_cases hl : ns.length < 64
      · rw [if_pos hl] at h1
        cases d1 with
        | tup hx r =>
          rw [intsOf_eq e] at r
          rw [r.of_ints] at hx
          exact go _ ns rfl (.inr (subT o1.sub hx)) hl h1
      · rw [if_neg hl] at h1; exact h1.elim
  | _ => exact (show False from h1).elim
end
end DL
set_option Elab.async false
set_option linter.all false
set_option maxRecDepth 100000
set_option maxHeartbeats 4000000
/-! DL8: len and sorted of {x: True for x in ..}. -/
namespace DL
open PySem L2
section
variable {α : Type} [DecidableEq α]
def addK (l : List α) (k : α) : List α := if k ∈ l then l else l ++ [k]
def dedupK (ks : List α) : List α := ks.foldl addK []
theorem addK_mem {l : List α} {k x : α} : x ∈ addK l k ↔ x ∈ l ∨ x = k := by
  unfold addK
  split
  · rename_i h
    exact ⟨.inl, fun q => q.elim id fun e => by rw [e]; exact h⟩
  · rw [List.mem_append, List.mem_singleton]
theorem addK_nodup {l : List α} {k : α} (h : l.Nodup) : (addK l k).Nodup := by
  unfold addK
  split
  · exact h
  · rename_i q
    rw [List.nodup_append]
    exact ⟨h, by simp, fun a ha b hb e => q (by rw [List.mem_singleton] at hb; rw [← hb, ← e]; exact ha)⟩
theorem foldK_mem : ∀ {ks l : List α} {x : α}, x ∈ ks.foldl addK l ↔ x ∈ l ∨ x ∈ ks
  | [], l, x => by simp
  | k :: ks, l, x => by
    rw [List.foldl_cons, foldK_mem, addK_mem, List.mem_cons, or_assoc]
theorem foldK_nodup : ∀ {ks l : List α}, l.Nodup → (ks.foldl addK l).Nodup
  | [], _, h => h
  | k :: ks, l, h => by
    rw [List.foldl_cons]
    exact foldK_nodup (addK_nodup h)
theorem dedupK_mem {ks : List α} {x : α} : x ∈ dedupK ks ↔ x ∈ ks := by unfold dedupK; rw [foldK_mem]; simp
theorem dedupK_nodup {ks : List α} : (dedupK ks).Nodup := foldK_nodup List.nodup_nil
theorem foldK_len : ∀ (ks l : List α), (ks.foldl addK l).length ≤ l.length + ks.length
  | [], l => by simp
  | k :: ks, l => by
    rw [List.foldl_cons, List.length_cons]
    have := foldK_len ks (addK l k)
    have h2 : (addK l k).length ≤ l.length + 1 := by unfold addK; split <;> simp
    omega
theorem dedupK_len (ks : List α) : (dedupK ks).length ≤ ks.length := by have := foldK_len ks []; simpa [dedupK] using this
end
theorem putK_keys (kvs : List (Key × V)) (k : Key) (v : V) : (putK kvs k v).map (·.1) = addK (kvs.map (·.1)) k := by
  unfold putK addK
  by_cases h : k ∈ kvs.map (·.1)
  · have h1 : (kvs.any fun kv => decide (kv.1 = k)) = true := by
      obtain ⟨p, hp, e⟩ := List.mem_map.mp h
      exact List.any_eq_true.mpr ⟨p, hp, decide_eq_true e⟩
    rw [if_pos h1, if_pos h, List.map_map]
    refine List.map_congr_left fun p _ => ?_
    show (if p.1 = k then (p.1, v) else p).1 = p.1
    split <;> rfl
  · have h1 : ¬ (kvs.any fun kv => decide (kv.1 = k)) = true := fun q => by
      obtain ⟨p, hp, e⟩ := List.any_eq_true.mp q
      exact h (List.mem_map.mpr ⟨p, hp, of_decide_eq_true e⟩)
    rw [if_neg h1, if_neg h, List.map_append]
    rfl
def keyP : PD → Option Key
  | .int i => some (.inl i)
  | .str x => some (.inr x)
  | _ => none
def keysP : List PD → Option (List Key)
  | [] => some []
  | d :: r => match keyP d, keysP r with
    | some k, some ks => some (k :: ks)
    | _, _ => none
theorem keysP_cons {d : PD} {r : List PD} {ks : List Key} (h : keysP (d :: r) = some ks) : ∃ k ks', keyP d = some k ∧ keysP r = some ks' ∧ ks = k :: ks' := by
  unfold keysP at h
  split at h
  · rename_i k ks' e1 e2
    cases h
    exact ⟨k, ks', e1, e2, rfl⟩
  · cases h
theorem keysP_get : ∀ {ds : List PD} {ks : List Key} {i : Nat} {d : PD}, keysP ds = some ks → ds[i]? = some d → ∃ k, ks[i]? = some k ∧ keyP d = some k
  | [], _, _, _, _, e => by simp at e
  | x :: r, ks, 0, d, h, e => by
    obtain ⟨k, ks', h1, h2, rfl⟩ := keysP_cons h
    rw [List.getElem?_cons_zero] at e
    cases e
    exact ⟨k, rfl, h1⟩
  | x :: r, ks, i + 1, d, h, e => by
    obtain ⟨k, ks', h1, h2, rfl⟩ := keysP_cons h
    rw [List.getElem?_cons_succ] at e
    obtain ⟨k', a, b⟩ := keysP_get h2 e
    exact ⟨k', by rw [List.getElem?_cons_succ]; exact a, b⟩
theorem keysP_len : ∀ {ds : List PD} {ks : List Key}, keysP ds = some ks → ks.length = ds.length
  | [], _, h => by cases h; rfl
  | x :: r, ks, h => by
    obtain ⟨k, ks', h1, h2, rfl⟩ := keysP_cons h
    rw [List.length_cons, List.length_cons, keysP_len h2]
theorem keyV {K : Fg} {G : Hp} {v : V} {d : PD} {k : Key} (r : DR K G v d) (h : keyP d = some k) : v = kV k := by
  cases r <;> cases h <;> rfl
section
variable {X : Cx} {W : WX}
def mDc (i : Nat) (mi : EnvM → Bag → Res (List PD)) (f : List Key → Bag → Res PD) : EnvM → Bag → Res PD := fun env B => if i < env.length then (mi env B).bind fun ds B1 => (match keysP ds with
  | some ks => if ks.length ≤ sizeLine then f ks B1 else .bad
  | none => .bad) else .bad
theorem dc_sem (i : Nat) {tg iter : Expr} {wi : TI} {mi : EnvM → Bag → Res (List PD)} {f : List Key → Bag → Res PD} {w : Wd} {G0 H0 : Hp} {σ : L2.St} {env : EnvM} {G H : Hp} {B : Bag} {Q Q' : VK} (hi : WI X W tg iter wi mi) (R : Rel X.K w G0 H0 σ env G H B)
    (h : PostE X.K X.mg w G H (mDc i mi f env B) Q (fun c d H' => W c d σ H'))
    (hQ : ∀ (ks : List Key) (B1 : Bag) (G1 H1 H2 : Hp) (D : Addr) (kvs : List (Key × V)), PostE X.K X.mg w G1 H1 (f ks B1) Q (fun c d H' => W c d σ H') → Step w G1 H1 G1 H2 → Ok w G1 H2 B1 → H2 D = some (.dK kvs) → kvs.map (·.1) = dedupK ks → Q' (.ref D) H2) :
    tDc wi (gName i) tYes (tVar i) (tC (.bl true)) [i] σ H Q' := by
  unfold mDc at h
  by_cases hlen : i < env.length
  · rw [if_pos hlen] at h
    refine hi.sem w G0 H0 σ env G H B _ R (PostR.bind h fun ds B1 J G1 H1 s1 o1 wk h1 => ?_)
    cases hk : keysP ds with
    | none => simp only [hk] at h1; exact h1.elim
    | some ks =>
      simp only [hk] at h1
      by_cases hl : ks.length ≤ sizeLine
      · rw [if_pos hl] at h1
        have hkl := keysP_len hk
        intro D hD
        have nD : Nb w D := o1.nb hD
        refine ⟨fun j m H => m = ks.length - j ∧ j ≤ ks.length ∧ ∃ kvs, Step w G1 H1 G1 H ∧ Ok w G1 H B1 ∧ H D = some (.dK kvs) ∧ kvs.map (·.1) = dedupK (ks.take j),
          ⟨ks.length, by simp, Nat.zero_le _, [], Step.newH hD, o1.newH hD, upd_same, rfl⟩, ?_⟩
        rintro j m H2 ⟨rfl, hj, kvs, s2, o2, hD2, hkv⟩
        by_cases hlt : j < ks.length
        · right
          have hd : ds[j]? = some ds[j] := by simp [← hkl, hlt]
          obtain ⟨k, e1, e2⟩ := keysP_get hk hd
          refine ⟨wk.go j H2 _ o2.sub hd, fun H => ∃ kvs, Step w G1 H1 G1 H ∧ Ok w G1 H B1 ∧ H D = some (.dK kvs) ∧ kvs.map (·.1) = dedupK (ks.take (j + 1)),
            fun H' q => ⟨ks.length - (j + 1), by omega, rfl, hlt, q⟩, fun x H3 y => ?_⟩
          obtain ⟨G3, s3, o3, d3⟩ := wk.yld j w G1 H2 B1 x H3 _ o2 (Sub.refl _) hd y
          have ex : x = kV k := keyV d3 e2
          have iσ : i < σ.length := by rw [← R.len]; exact hlen
          have e3 : ((wipe σ [i]).set i (some x))[i]? = some (some x) := List.getElem?_set_self (by rw [wipe_length]; exact iσ)
          refine ⟨wipe_set List.mem_cons_self |>.trans (wipe_wipe [i] fun _ z => z), ?_⟩
          refine ⟨x, e3, kvs, k, ex, s3.keep D _ nD.one hD2, ?_, putK kvs k (.bl true), ?_, ?_, upd_same, ?_⟩
          · have : kvs.length ≤ j := by
              have a := congrArg List.length hkv
              rw [List.length_map] at a
              have b := dedupK_len (ks.take j)
              rw [List.length_take] at b
              omega
            omega
          · exact ((s2.trans (show Step w G1 H2 G1 H3 from ⟨fun _ _ z => z, fun _ _ z => .inl z, s3.keep, s3.there⟩)).mutNew hD)
          · exact (show Ok w G1 H3 B1 from ⟨fun a o z => o3.sub a o (s3.exG a o z), o3.bag, o2.gb, o2.gl⟩).mut (o1.free hD) nD
          · rw [putK_keys, hkv]
            unfold dedupK
            rw [List.take_add_one, e1, List.foldl_append]
            rfl
        · left
          have e : j = ks.length := by omega
          subst e
          rw [List.take_length] at hkv
          exact ⟨wk.stop _ H2 o2.sub (by omega), hQ ks B1 G1 H1 H2 D kvs h1 s2 o2 hD2 hkv⟩
      · rw [if_neg hl] at h1; exact h1.elim
  · rw [if_neg hlen] at h; exact h.elim
def mDcLen (i : Nat) (mi : EnvM → Bag → Res (List PD)) : EnvM → Bag → Res PD := mDc i mi fun ks B => .ok (.int ((dedupK ks).length : Int)) B
abbrev rLenD : List V → Hp → VK → Prop := fun xs H Q => ∃ a kvs, xs = [V.ref a] ∧ H a = some (.dK kvs) ∧ Q (.int kvs.length) H
theorem ed_dcLen (i : Nat) {x : Str} {iter : Expr} {scope : Scope} {j : Nat} {p p1 p2 p3 pos pos2 : Pos} {wi : TI} {mi : EnvM → Bag → Res (List PD)} (hc : X.calm = true) (hN : X.N.Nodup) (hm : X.mg "len" = none) (hi : WI X W (.Name x p3) iter wi mi)
    (hk : ∀ (s : Shared) (H : Hp) (C : Addr) (cl : List (Str × Addr)) (fp : List Addr), PE (X.blk s H scope (compEnvC scope cl C X.env) fp) (.Name x p1) (tVar i)) (hgn : ∀ (s : Shared) (H : Hp) (C : Addr) (cl : List (Str × Addr)) (fp : List Addr), PG (X.blk s H scope (compEnvC scope cl C X.env) fp) (.Name x p3) (gName i))
    (ok : blkC X.N X.env.scope scope [(x, i)] = true := by rfl) (hs : ∀ y, foldedSetIterable iter X.env y = pure y := by intro _; rfl) (hg : Gl X "len" := by rfl)
    (h1 : starEach [.DictComp (.Name x p1) (.Constant (.bool true) j p2) [⟨.Name x p3, iter, [], 0⟩] scope pos2] X.env = (false, eval (.DictComp (.Name x p1) (.Constant (.bool true) j p2) [⟨.Name x p3, iter, [], 0⟩] scope pos2) X.env) :: starEach [] X.env := by rfl) (hpl : (backTo pos (starEach [] X.env)).any (·.1) = false := by rfl) :
    ED X W (.Call (.Name "len" p) [.DictComp (.Name x p1) (.Constant (.bool true) j p2) [⟨.Name x p3, iter, [], 0⟩] scope pos2] [] pos) (tCB rLenD (tCons (tDc wi (gName i) tYes (tVar i) (tC (.bl true)) [i]) tNil)) (mDcLen i mi) := by
  refine ⟨pe_callB call_lenD hg hm PySem.boot_len (pa_cons (pe_dc (own := [(x, i)]) hc hN hi.pe (blkOk_by ok) hgn (fun _ _ _ _ _ => pts_nil) hk (fun _ _ _ _ _ => pe_bl) hs) pa_nil h1) (by decide) (by decide) h1 hpl, fun w G0 H0 σ env G H B Q R h => ?_⟩
  refine dc_sem (Q' := fun x H2 => rLenD [x] H2 Q) i hi R h fun ks B1 G1 H1 H2 D kvs hp s2 o2 hD hkv => ?_
  have e : kvs.length = (dedupK ks).length := by rw [← hkv, List.length_map]
  exact ⟨D, kvs, rfl, hD, by rw [e]; exact hp _ G1 H2 s2 o2 (.int _)⟩
def intKeys : List Key → Option (List Int)
  | [] => some []
  | .inl i :: r => (intKeys r).map (i :: ·)
  | .inr _ :: _ => none
theorem intKeys_eq : ∀ {ks : List Key} {ns : List Int}, intKeys ks = some ns → ks = ns.map Sum.inl
  | [], ns, h => by cases h; rfl
  | .inl i :: r, ns, h => by
    unfold intKeys at h
    cases e : intKeys r with
    | none => rw [e] at h; cases h
    | some ms => rw [e] at h; cases h; rw [intKeys_eq e]; rfl
  | .inr _ :: _, _, h => by cases h
theorem foldK_inl : ∀ (ns l : List Int), (ns.map Sum.inl : List Key).foldl addK (l.map Sum.inl) = (ns.foldl addK l).map Sum.inl
  | [], l => rfl
  | n :: r, l => by
    rw [List.map_cons, List.foldl_cons, List.foldl_cons]
    have e : addK (l.map Sum.inl : List Key) (Sum.inl n) = (addK l n).map Sum.inl := by
      unfold addK
      have : (Sum.inl n : Key) ∈ (l.map Sum.inl : List Key) ↔ n ∈ l := by simp
      by_cases h : n ∈ l
      · rw [if_pos h, if_pos (this.mpr h)]
      · rw [if_neg h, if_neg (fun z => h (this.mp z)), List.map_append]; rfl
    rw [e, foldK_inl r]
def mDcSrt (i : Nat) (mi : EnvM → Bag → Res (List PD)) : EnvM → Bag → Res PD := mDc i mi fun ks B => match intKeys ks with
  | some ns => if ns.length < 64 then .ok (.list ((riseI ns).map PyData.int)) B else .bad
  | none => .bad
abbrev rSrtD : List V → Hp → VK → Prop := fun xs H Q => ∃ (a : Addr) (kvs : List (Key × V)) (ks : List Int), xs = [.ref a] ∧ Rd H a (.dK kvs) ∧ kvs.map (·.1) = ks.map Sum.inl ∧ ks.length < 64 ∧ ∀ (ys : List Int) (p : Addr), ys.Perm ks → ys.Pairwise (· ≤ ·) → H p = none → Q (.ref p) (upd H p (.lst (ys.map V.int)))
theorem ed_dcSrt (i : Nat) {x : Str} {iter : Expr} {scope : Scope} {j : Nat} {p p1 p2 p3 pos pos2 : Pos} {wi : TI} {mi : EnvM → Bag → Res (List PD)} (hc : X.calm = true) (hN : X.N.Nodup) (hm : X.mg "sorted" = none) (hi : WI X W (.Name x p3) iter wi mi)
    (hk : ∀ (s : Shared) (H : Hp) (C : Addr) (cl : List (Str × Addr)) (fp : List Addr), PE (X.blk s H scope (compEnvC scope cl C X.env) fp) (.Name x p1) (tVar i)) (hgn : ∀ (s : Shared) (H : Hp) (C : Addr) (cl : List (Str × Addr)) (fp : List Addr), PG (X.blk s H scope (compEnvC scope cl C X.env) fp) (.Name x p3) (gName i))
    (ok : blkC X.N X.env.scope scope [(x, i)] = true := by rfl) (hs : ∀ y, foldedSetIterable iter X.env y = pure y := by intro _; rfl) (hg : Gl X "sorted" := by rfl)
    (h1 : starEach [.DictComp (.Name x p1) (.Constant (.bool true) j p2) [⟨.Name x p3, iter, [], 0⟩] scope pos2] X.env = (false, eval (.DictComp (.Name x p1) (.Constant (.bool true) j p2) [⟨.Name x p3, iter, [], 0⟩] scope pos2) X.env) :: starEach [] X.env := by rfl) (hpl : (backTo pos (starEach [] X.env)).any (·.1) = false := by rfl) :
    ED X W (.Call (.Name "sorted" p) [.DictComp (.Name x p1) (.Constant (.bool true) j p2) [⟨.Name x p3, iter, [], 0⟩] scope pos2] [] pos) (tCB rSrtD (tCons (tDc wi (gName i) tYes (tVar i) (tC (.bl true)) [i]) tNil)) (mDcSrt i mi) := by
  refine ⟨pe_callB (call_sortedDI hc) hg hm (by decide +kernel) (pa_cons (pe_dc (own := [(x, i)]) hc hN hi.pe (blkOk_by ok) hgn (fun _ _ _ _ _ => pts_nil) hk (fun _ _ _ _ _ => pe_bl) hs) pa_nil h1) (by decide) (by decide) h1 hpl, fun w G0 H0 σ env G H B Q R h => ?_⟩
  refine dc_sem (Q' := fun x H2 => rSrtD [x] H2 Q) i hi R h fun ks B1 G1 H1 H2 D kvs hp s2 o2 hD hkv => ?_
  cases e : intKeys ks with
  | none => simp only [e] at hp; exact hp.elim
  | some ns =>
    simp only [e] at hp
    by_cases hl : ns.length < 64
    · rw [if_pos hl] at hp
      have e1 := intKeys_eq e
      subst e1
      have e2 : dedupK (ns.map Sum.inl : List Key) = (dedupK ns).map Sum.inl := foldK_inl ns []
      refine ⟨D, kvs, dedupK ns, rfl, .inl hD, by rw [hkv, e2], by have := dedupK_len ns; omega, fun ys q pm pw hq => ?_⟩
      have pw2 : ys.Pairwise (· < ·) := by
        have nd : ys.Nodup := pm.nodup_iff.mpr dedupK_nodup
        refine (pw.and nd).imp fun ⟨a, b⟩ => ?_
        omega
      have e3 : ys = riseI ns := rise_eq pw2 fun k => by rw [pm.mem_iff, dedupK_mem]
      subst e3
      exact hp _ _ _ (s2.trans (Step.new o2.sub hq)) (o2.new hq) (.lst upd_same (DRs.ints _))
    · rw [if_neg hl] at hp; exact hp.elim
end
end DL
set_option Elab.async false
set_option linter.all false
set_option maxRecDepth 100000
set_option maxHeartbeats 4000000
/-! DL9: the bag's making, the law's frame. -/
namespace DL
open PySem L2
def cellsOf (ns : List Int) : List Nat := ns.map Int.natAbs
def spBag (K : Fg) : Sp := fun vs H Q _ => ∃ (a : Addr) (ns : List Int), vs = [.ref a] ∧ SqL K H a (ns.map V.int) ∧ ns.length ≤ 63 ∧
  ∀ (b l : Addr) (H' : Hp), l ≠ b → Sub H H' → H' b = some (.lst [.int 0, .int 1234567891, .int 0, .ref l]) → H' l = some (.lst ((cellsOf ns).map fun n : Nat => V.int (n : Int))) → Q (.ref b) H'
def spLaw (K : Fg) : Sp := fun vs H Q _ => ∃ (a : Addr) (ns : List Int), vs = [.ref a] ∧ SqL K H a (ns.map V.int) ∧ ns.length ≤ 63 ∧ ∀ H', Q (.bl true) H'
def tBag (K : Fg) (i : Nat) : TE := tLst (tCons (tC (.int 0)) (tCons (tC (.int 1234567891)) (tCons (tC (.int 0)) (tCons (tLc (iList K (tSl (rSlL K) (tVar 0) tNoPart (tPart (tC (.int 63))))) (gName i) tYes (tCB rAbs (tCons (tVar i) tNil)) [i]) tNil))))
theorem bag_sem {K : Fg} {i : Nat} {σ : L2.St} {H : Hp} {Q : VK} {a : Addr} {ns : List Int} (hi : i < σ.length) (h0 : σ[0]? = some (some (.ref a))) (hs : SqL K H a (ns.map V.int)) (hl : ns.length ≤ 63)
    (k : ∀ (b l : Addr) (H' : Hp), l ≠ b → Sub H H' → H' b = some (.lst [.int 0, .int 1234567891, .int 0, .ref l]) → H' l = some (.lst ((cellsOf ns).map fun n : Nat => V.int (n : Int))) → Q (.ref b) H') : tBag K i σ H Q := by
  have hlen : (ns.map V.int).length = ns.length := List.length_map _
  have h63 : 63 ≤ sizeLine := by decide
  refine ⟨_, h0, 63, rfl, a, ns.map V.int, rfl, hs, fun p hp => ⟨p, rfl, ⟨_, SqL.of upd_same⟩, ?_⟩⟩
  · have cut : cutV (ns.map V.int) none (some 63) = ns.map V.int := by
      have e2 : HT.sIx (ns.map V.int).length (ns.map V.int).length (some 63) = (ns.map V.int).length := by
        have e3 : HT.sIx (ns.map V.int).length (ns.map V.int).length (some ((63 : Nat) : Int)) = min 63 (ns.map V.int).length := HT.sIx_nat _ _ 63
        have e4 : min 63 (ns.map V.int).length = (ns.map V.int).length := by omega
        exact e3.trans e4
      unfold cutV
      rw [e2, HT.sIx_none, List.drop_zero, Nat.sub_zero, List.take_length]
    rw [cut]
    intro D hD
    have npD : p ≠ D := fun z => by rw [← z, upd_same] at hD; cases hD
    have hHD : H D = none := by rw [upd_ne npD.symm] at hD; exact hD
    refine lc_list (K := K) (a := p) (xs := ns.map V.int) (fun j H' => Sub H H' ∧ H' p = some (.lst (ns.map V.int)) ∧ H' D = some (.lst ((cellsOf (ns.take j)).map fun n : Nat => V.int (n : Int))) ∧ j ≤ ns.length) ⟨fun c o e => ?_, ?_, upd_same, Nat.zero_le _⟩ (fun j H' _ q => SqL.of q.2.1) ?_ ?_
    · rw [upd_ne (ne_of_none e hHD), upd_ne (ne_of_none e hp)]; exact e
    · rw [upd_ne npD]; exact upd_same
    · rintro j x H' hx ⟨q1, q2, q3, q4⟩
      obtain ⟨n, e1, e2⟩ : ∃ n, ns[j]? = some n ∧ x = .int n := by
        rw [List.getElem?_map] at hx
        cases e : ns[j]? with
        | none => rw [e] at hx; cases hx
        | some n => rw [e] at hx; exact ⟨n, rfl, (Option.some.inj hx).symm⟩
      subst e2
      have hj : j < ns.length := (List.getElem?_eq_some_iff.mp e1).1
      have e3 : ((wipe σ [i]).set i (some (.int n)))[i]? = some (some (.int n)) := List.getElem?_set_self (by rw [wipe_length]; exact hi)
      refine ⟨(wipe_set List.mem_cons_self).trans (wipe_wipe [i] fun _ z => z), ?_⟩
      have ez : (if n < 0 then -n else n) = ((n.natAbs : Nat) : Int) := by split <;> omega
      refine ⟨_, e3, n, rfl, _, q3, ?_, fun c o e => ?_, ?_, ?_, hj⟩
      · unfold cellsOf
        rw [List.length_map, List.length_map, List.length_take]
        omega
      · have nD : c ≠ D := fun z => by rw [z, hHD] at e; cases e
        rw [upd_ne nD]; exact q1 c o e
      · rw [upd_ne npD]; exact q2
      · rw [upd_same, ez]
        unfold cellsOf
        rw [List.take_add_one, e1, List.map_append, List.map_append]
        rfl
    · rintro H' ⟨q1, q2, q3, q4⟩
      rw [hlen, List.take_length] at q3
      refine ⟨(by decide : 4 ≤ sizeLine), fun b hb => ?_⟩
      have nDb : D ≠ b := ne_of_none q3 hb
      exact k b D _ nDb (fun c o e => by rw [upd_ne (ne_of_none (q1 c o e) hb)]; exact q1 c o e) upd_same (by rw [upd_ne nDb]; exact q3)
/-- the law's start: the slots empty but the bag's -/
def envL (n ib : Nat) : EnvM := (List.replicate n none).set ib (some .bag)
def bag0 (ns : List Int) : Bag := ⟨0, 1234567891, 0, cellsOf ns⟩
theorem law_rel {K : Fg} {H : Hp} {σ : L2.St} {b l : Addr} {ns : List Int} {n ib : Nat} (hn : σ.length = n) (hb : H b = some (.lst [.int 0, .int 1234567891, .int 0, .ref l])) (hl : H l = some (.lst ((cellsOf ns).map fun n : Nat => V.int (n : Int)))) (nlb : l ≠ b) (hs : σ[ib]? = some (some (.ref b))) :
    Rel K (some (b, l)) (upd (fun _ => none) l (.lst ((cellsOf ns).map fun n : Nat => V.int (n : Int)))) H σ (envL n ib) (upd (fun _ => none) l (.lst ((cellsOf ns).map fun n : Nat => V.int (n : Int)))) H (bag0 ns) := by
  have only : ∀ (j : Nat) (sv : SV), (envL n ib)[j]? = some (some sv) → j = ib ∧ sv = .bag := fun j sv e => by
    unfold envL at e
    by_cases hj : ib = j
    · subst hj
      by_cases h : ib < (List.replicate n (none : Option SV)).length
      · rw [List.getElem?_set_self h] at e
        cases e
        exact ⟨rfl, rfl⟩
      · rw [List.getElem?_eq_none (by rw [List.length_set]; omega)] at e; cases e
    · rw [List.getElem?_set_ne hj, List.getElem?_replicate] at e
      split at e <;> cases e
  refine ⟨⟨fun c o e => ?_, fun b' l' e => ?_, fun b' l' e => ?_, fun b' l' e => ?_⟩, Step.refl, by unfold envL; rw [List.length_set, List.length_replicate]; exact hn.symm, fun j sv e => ?_, fun j k sj sk p hjk e1 o1 _ _ _ => ?_⟩
  · by_cases h : c = l
    · subst h; rw [upd_same] at e; cases e; exact hl
    · rw [upd_ne h] at e; cases e
  · cases e; exact ⟨hb, nlb, hl⟩
  · cases e; rw [upd_ne nlb.symm]
  · cases e; exact upd_same
  · obtain ⟨rfl, rfl⟩ := only j sv e
    exact ⟨_, hs, b, l, rfl, rfl⟩
  · obtain ⟨_, rfl⟩ := only j sj e1
    cases o1
/-- the law by its mirror -/
theorem law_sem {X : Cx} {t : TS} {rest : List Stmt} {m : EnvM → Bag → SRes} {σ : L2.St} {H : Hp} {Q : VK} {a : Addr} {ns : List Int} {n ib : Nat} (hr : SDs X W0 rest t m) (hn : σ.length = n) (hib : ib < n) (h0 : σ[0]? = some (some (.ref a))) (hs : SqL X.K H a (ns.map V.int)) (hl : ns.length ≤ 63)
    (hm : ∃ B, m (envL n ib) (bag0 ns) = .ret (.bool true) B) (k : ∀ H', Q (.bl true) H') (E : XK) :
    tSeq (tAsg (tCall (spBag X.K) [] E (tCons (tVar 0) tNil)) (gName ib)) t { nx := fun _ H' => Q .non H', rt := Q } σ H := by
  refine ⟨_, h0, a, ns, rfl, hs, hl, fun b l H' nlb sb hb hl' => ?_⟩
  obtain ⟨B, e⟩ := hm
  have R := law_rel (K := X.K) (σ := σ.set ib (some (.ref b))) (n := n) (ib := ib) (by rw [List.length_set]; exact hn) hb hl' nlb (List.getElem?_set_self (by omega))
  refine hr.sem _ _ _ _ _ _ _ _ _ R ?_
  rw [e]
  intro v G' H2 s2 o2 d
  cases d
  exact k H2
end DL
set_option Elab.async false
set_option linter.all false
set_option maxRecDepth 100000
set_option maxHeartbeats 4000000
/-! DL10: lists, tuples and texts walked. -/
namespace DL
open PySem L2
def signsOf (x : Str) : List PD := x.cps.toList.map fun c => PyData.str ⟨#[c]⟩
theorem Walks.str {K : Fg} {G : Hp} {x : Str} : Walks K (Its x) G (signsOf x) where
  go := fun i H d hs e => by
    have q := (List.getElem?_eq_some_iff.mp e).1
    unfold signsOf at q
    rw [List.length_map, Array.length_toList] at q
    exact q
  yld := fun i w G' H B v H' d o hs e y => by
    obtain ⟨e1, c, h1, h2⟩ := y
    subst e1
    subst h2
    unfold signsOf at e
    rw [List.getElem?_map, Array.getElem?_toList, h1] at e
    cases e
    exact ⟨G', Step.refl, o, .str _⟩
  stop := fun i H hs e => by
    unfold signsOf at e
    rw [List.length_map, Array.length_toList] at e
    exact e
def mSeqOfS (m : EnvM → Bag → Res PD) : EnvM → Bag → Res (List PD) := fun env B => (m env B).bind fun d B1 => match d with
  | .list ds => .ok ds B1
  | .tuple ds => .ok ds B1
  | .str x => .ok (signsOf x) B1
  | _ => .bad
theorem wi_seqSK {X : Cx} {W : WX} (K : Fg) {tg e : Expr} {t : TE} {m : EnvM → Bag → Res PD} (h : ED X W e t m) (hK : X.K = K := by rfl) : WI X W tg e (fun σ H R => (iList K t σ H R ∨ iTup K t σ H R) ∨ iStr t σ H R) (mSeqOfS m) := by
  subst hK
  refine ⟨pi_or (pi_or (pi_list h.pe) (pi_tup h.pe)) (pi_str h.pe), fun w G0 H0 σ env G H B Q R hp => ?_⟩
  unfold mSeqOfS at hp
  cases e : m env B with
  | ok d B1 =>
    rw [e] at hp
    have mk : ∀ Q1 : VK, (∀ v G' H', Step w G H G' H' → Ok w G' H' B1 → DR X.K G' v d → Q1 v H') → PostE X.K X.mg w G H (m env B) Q1 (fun c d H' => W c d σ H') := fun Q1 k => by
      rw [e]
      exact k
    cases d with
    | list ds =>
      left; left
      refine h.sem w G0 H0 σ env G H B _ R (mk _ fun v G' H' s o dv => ?_)
      cases dv with
      | lst hx r => exact ⟨_, rfl, ⟨_, subL o.sub hx⟩, hp _ G' H' s o (Walks.list hx r)⟩
    | tuple ds =>
      left; right
      refine h.sem w G0 H0 σ env G H B _ R (mk _ fun v G' H' s o dv => ?_)
      cases dv with
      | tup hx r => exact ⟨_, rfl, ⟨_, subT o.sub hx⟩, hp _ G' H' s o (Walks.tuple hx r)⟩
    | str x =>
      right
      refine h.sem w G0 H0 σ env G H B _ R (mk _ fun v G' H' s o dv => ?_)
      cases dv
      exact ⟨x, rfl, hp _ G' H' s o Walks.str⟩
    | _ => exact (show False from hp).elim
  | exc c as B1 =>
    rw [e] at hp
    left; left
    refine h.sem w G0 H0 σ env G H B _ R ?_
    rw [e]
    exact hp
  | bad => rw [e] at hp; exact hp.elim
end DL
set_option Elab.async false
set_option linter.all false
set_option maxRecDepth 100000
set_option maxHeartbeats 4000000
/-! PLB: the mirrors evaluated, step by step. -/
namespace DL
open PySem L2
section
variable {env e1 e2 : EnvM} {B B1 B2 B3 : Bag} {ma mb mc : EnvM → Bag → Res PD} {x y z d : PD} {g g' : PD → PD → Option PD} {c : PD → PD → Option Bool} {k k' : Bool}
theorem r_c : mC d env B = .ok d B := rfl
theorem r_var {i : Nat} (h : env[i]? = some (some (.d x))) : mVar i env B = .ok x B := by unfold mVar; rw [h]
theorem r_op (ha : ma env B = .ok x B1) (hb : mb env B1 = .ok y B2) (hg : g x y = some z) : mOp g ma mb env B = .ok z B2 := by
  unfold mOp; rw [ha]; show (mb env B1).bind _ = _; rw [hb]; show (match g x y with | some z => Res.ok z B2 | none => .bad) = _; rw [hg]
theorem r_cmp (ha : ma env B = .ok x B1) (hb : mb env B1 = .ok y B2) (hg : c x y = some k) : mCmp c ma mb env B = .ok k B2 := by
  unfold mCmp; rw [ha]; show (mb env B1).bind _ = _; rw [hb]; show (match c x y with | some z => Res.ok z B2 | none => .bad) = _; rw [hg]
theorem r_b {m : EnvM → Bag → Res Bool} (h : m env B = .ok k B1) : mB m env B = .ok (.bool k) B1 := by unfold mB; rw [h]; rfl
theorem r_chF {c' : PD → PD → Option Bool} (ha : ma env B = .ok x B1) (hb : mb env B1 = .ok y B2) (hg : c x y = some false) : mChain c c' ma mb mc env B = .ok false B2 := by
  unfold mChain; rw [ha]; show (mb env B1).bind _ = _; rw [hb]; simp only [Res.bind, hg]
theorem r_chT {c' : PD → PD → Option Bool} (ha : ma env B = .ok x B1) (hb : mb env B1 = .ok y B2) (hg : c x y = some true) (hc : mc env B2 = .ok z B3) (hg' : c' y z = some k) : mChain c c' ma mb mc env B = .ok k B3 := by
  unfold mChain; rw [ha]; show (mb env B1).bind _ = _; rw [hb]; simp only [Res.bind, hg, hc, hg']
/-- both comparisons pure -/
theorem r_ch {c' : PD → PD → Option Bool} (ha : ma env B = .ok x B1) (hb : mb env B1 = .ok y B2) (hg : c x y = some k) (hc : mc env B2 = .ok z B2) (hg' : c' y z = some k') : mChain c c' ma mb mc env B = .ok (k && k') B2 := by
  cases k with
  | false => exact r_chF ha hb hg
  | true => rw [Bool.true_and]; exact r_chT ha hb hg hc hg'
theorem r_tru (h : ma env B = .ok x B1) (e : truP x = some k) : mTru truP ma env B = .ok k B1 := by unfold mTru; rw [h]; simp only [Res.bind, e]
theorem r_truB (h : ma env B = .ok (.bool k) B1) : mTru truP ma env B = .ok k B1 := r_tru h rfl
theorem r_not {m : EnvM → Bag → Res Bool} (h : m env B = .ok k B1) : mNot m env B = .ok (!k) B1 := by unfold mNot; rw [h]; rfl
theorem r_andF {m n : EnvM → Bag → Res Bool} (h : m env B = .ok false B1) : mAnd m n env B = .ok false B1 := by unfold mAnd; rw [h]; rfl
theorem r_andT {m n : EnvM → Bag → Res Bool} {r : Res Bool} (h : m env B = .ok true B1) (h2 : n env B1 = r) : mAnd m n env B = r := by unfold mAnd; rw [h]; exact h2
theorem r_orT {m n : EnvM → Bag → Res Bool} (h : m env B = .ok true B1) : mOr m n env B = .ok true B1 := by unfold mOr; rw [h]; rfl
theorem r_orF {m n : EnvM → Bag → Res Bool} {r : Res Bool} (h : m env B = .ok false B1) (h2 : n env B1 = r) : mOr m n env B = r := by unfold mOr; rw [h]; exact h2
/-- the second read only if the first is false, and then without a change -/
theorem r_or {m n : EnvM → Bag → Res Bool} (h : m env B = .ok k B1) (h2 : k = false → n env B1 = .ok k' B1) : mOr m n env B = .ok (k || k') B1 := by
  cases k with
  | true => exact r_orT h
  | false => rw [Bool.false_or]; exact r_orF h (h2 rfl)
theorem r_andV (h : ma env B = .ok (.bool k) B1) (h2 : k = true → mb env B1 = .ok (.bool k') B1) : mAndV ma mb env B = .ok (.bool (k && k')) B1 := by
  cases k with
  | false => unfold mAndV; rw [h]; rfl
  | true => unfold mAndV; rw [h, Bool.true_and]; exact h2 rfl
theorem r_orV (h : ma env B = .ok (.bool k) B1) (h2 : k = false → mb env B1 = .ok (.bool k') B1) : mOrV ma mb env B = .ok (.bool (k || k')) B1 := by
  cases k with
  | true => unfold mOrV; rw [h]; rfl
  | false => unfold mOrV; rw [h, Bool.false_or]; exact h2 rfl
theorem r_notV (h : ma env B = .ok (.bool k) B1) : mNotV ma env B = .ok (.bool (!k)) B1 := by unfold mNotV; rw [h]; rfl
theorem r_isi {f : PD → Bool} (h : ma env B = .ok x B1) : mIsi f ma env B = .ok (.bool (f x)) B1 := by unfold mIsi; rw [h]; rfl
theorem r_isi2 {f h' : PD → Bool} (h : ma env B = .ok x B1) : mIsi2 f h' ma env B = .ok (.bool (f x || h' x)) B1 := by unfold mIsi2; rw [h]; rfl
theorem r_neg {i : Int} (h : ma env B = .ok (.int i) B1) : mNeg ma env B = .ok (.int (-i)) B1 := by unfold mNeg; rw [h]; rfl
theorem r_g (h : ma env B = .ok x B1) : mG ma env B = .ok (.d x) B1 := by unfold mG; rw [h]; rfl
theorem r_bag {i : Nat} (h : env[i]? = some (some .bag)) : mBag i env B = .ok .bag B := by unfold mBag; rw [h]
theorem r_nil : mNil env B = .ok [] B := rfl
theorem r_cons {a : EnvM → Bag → Res SV} {r : EnvM → Bag → Res (List SV)} {s : SV} {ss : List SV} (h : a env B = .ok s B1) (h2 : r env B1 = .ok ss B2) : mCons a r env B = .ok (s :: ss) B2 := by
  unfold mCons; rw [h]; show (r env B1).bind _ = _; rw [h2]; rfl
theorem r_tup {m : EnvM → Bag → Res (List SV)} {ss : List SV} {ds : List PD} (h : m env B = .ok ss B1) (hu : unD ss = some ds) (hl : ds.length ≤ sizeLine) : mTup m env B = .ok (.tuple ds) B1 := by
  unfold mTup; rw [h]; simp only [Res.bind, hu, hl, if_true]
theorem r_lst {m : EnvM → Bag → Res (List SV)} {ss : List SV} {ds : List PD} (h : m env B = .ok ss B1) (hu : unD ss = some ds) (hl : ds.length ≤ sizeLine) : mLst m env B = .ok (.list ds) B1 := by
  unfold mLst; rw [h]; simp only [Res.bind, hu, hl, if_true]
theorem r_ca {g : List PD → Option PD} {m : EnvM → Bag → Res (List SV)} {ss : List SV} (h : m env B = .ok ss B1) (hg : (unD ss).bind g = some z) : mCa g m env B = .ok z B1 := by
  unfold mCa; rw [h]; simp only [Res.bind, hg]
theorem r_call {np : Nat} {f : List SV → Bag → Res PD} {m : EnvM → Bag → Res (List SV)} {ss : List SV} (h : m env B = .ok ss B1) (hl : ss.length = np) (hf : f ss B1 = .ok z B2) : mCall np f m env B = .ok z B2 := by
  unfold mCall; rw [h]; simp only [Res.bind, hl, if_true, hf]
theorem r_bagIx {i n : Nat} (h : env[i]? = some (some .bag)) (e : bagIx B n = some z) : mBagIx i n env B = .ok z B := by unfold mBagIx; rw [h]; simp only [e]
theorem r_sl {ml mh : EnvM → Bag → Res (Option Int)} {lo hi : Option Int} (ha : ma env B = .ok x B1) (hl : ml env B1 = .ok lo B2) (hh : mh env B2 = .ok hi B3) (e : sliceP x lo hi = some z) : mSl ma ml mh env B = .ok z B3 := by
  unfold mSl; rw [ha]; simp only [Res.bind, hl, hh, e]
theorem r_noPart : mNoPart env B = .ok none B := rfl
theorem r_part {i : Int} (h : ma env B = .ok (.int i) B1) : mPart ma env B = .ok (some i) B1 := by unfold mPart; rw [h]; rfl
theorem r_seqL {ds : List PD} (h : ma env B = .ok (.list ds) B1) : mSeqOfS ma env B = .ok ds B1 := by unfold mSeqOfS; rw [h]; rfl
theorem r_seqT {ds : List PD} (h : ma env B = .ok (.tuple ds) B1) : mSeqOfS ma env B = .ok ds B1 := by unfold mSeqOfS; rw [h]; rfl
theorem r_range1 {m : EnvM → Bag → Res (List SV)} {j : Int} (h : m env B = .ok [.d (.int j)] B1) (hj : -(2 ^ 62) ≤ j ∧ j < 2 ^ 62) : mRange1 m env B = .ok (rangeP 0 j.toNat) B1 := by
  unfold mRange1; rw [h]; show (if _ then _ else _) = _; rw [if_pos hj]
theorem r_rev {ds : List PD} (h : ma env B = .ok (.tuple ds) B1) : mRev ma env B = .ok (.tuple ds.reverse) B1 := by unfold mRev; rw [h]; rfl
/-! statements -/
variable {a b : EnvM → Bag → SRes} {r : SRes}
theorem s_seq (h : a env B = .nx e1 B1) (h2 : b e1 B1 = r) : mSeq a b env B = r := by unfold mSeq; rw [h]; exact h2
theorem s_seqR {d : PD} (h : a env B = .ret d B1) : mSeq a b env B = .ret d B1 := by unfold mSeq; rw [h]
theorem s_set {m : EnvM → Bag → Res PD} {g : PD → EnvM → Option EnvM} (h : m env B = .ok x B1) (hg : g x env = some e1) : mSet g m env B = .nx e1 B1 := by unfold mSet; rw [h]; simp only [Res.s, hg]
theorem s_par {i j : Nat} {m : EnvM → Bag → Res (List SV)} (h : m env B = .ok [.d x, .d y] B1) : mPar i j m env B = .nx ((env.set i (some (.d x))).set j (some (.d y))) B1 := by unfold mPar; rw [h]; rfl
theorem s_ifT {m : EnvM → Bag → Res Bool} (h : m env B = .ok true B1) (h2 : a env B1 = r) : mIf m a b env B = r := by unfold mIf; rw [h]; exact h2
theorem s_ifF {m : EnvM → Bag → Res Bool} (h : m env B = .ok false B1) (h2 : b env B1 = r) : mIf m a b env B = r := by unfold mIf; rw [h]; exact h2
theorem s_ret {m : EnvM → Bag → Res PD} (h : m env B = .ok x B1) : mRet m env B = .ret x B1 := by unfold mRet; rw [h]; rfl
theorem s_skip : mSkip env B = .nx env B := rfl
theorem s_bagSet {i n : Nat} {m : EnvM → Bag → Res PD} {v : Int} (h : m env B = .ok (.int v) B1) (he : env[i]? = some (some .bag)) (hv : 0 ≤ v) (hs : bagSet B1 n v.toNat = some B2) : mBagSet i n m env B = .nx env B2 := by
  unfold mBagSet; rw [h]; simp only [Res.s, he, hv, if_true, hs]
theorem s_bagAug {i n j : Nat} {v : Int} (he : env[i]? = some (some .bag)) (hx : bagIx B n = some (.int v)) (hs : bagSet B n (v.toNat + j) = some B2) : mBagAug i n j env B = .nx env B2 := by
  unfold mBagAug; rw [he]; simp only [hx, hs]
theorem s_fn {n : Nat} {m : EnvM → Bag → SRes} {ss : List SV} {d : PD} (h : m (env0 n ss) B = .ret d B1) : mFn n m ss B = .ok d B1 := by unfold mFn; rw [h]; rfl
/-! loops -/
theorem loop_inv {g : PD → EnvM → Option EnvM} {body : EnvM → Bag → SRes} (I : EnvM → Bag → Prop) : ∀ {ds : List PD} {env : EnvM} {B : Bag}, (∀ d ∈ ds, ∀ env B, I env B → ∃ e1, g d env = some e1 ∧ ∃ e2 B2, body e1 B = .nx e2 B2 ∧ I e2 B2) → I env B → ∃ e2 B2, mLoop g body ds env B = .nx e2 B2 ∧ I e2 B2
  | [], env, B, _, i => ⟨env, B, rfl, i⟩
  | d :: ds, env, B, h, i => by
    obtain ⟨e1, h1, e2, B2, h2, i2⟩ := h d List.mem_cons_self env B i
    obtain ⟨e3, B3, h3, i3⟩ := loop_inv I (ds := ds) (fun d hd => h d (List.mem_cons_of_mem _ hd)) i2
    exact ⟨e3, B3, by unfold mLoop; simp only [h1, h2]; exact h3, i3⟩
theorem s_for {src : EnvM → Bag → Res (List PD)} {g : PD → EnvM → Option EnvM} {body : EnvM → Bag → SRes} (I : EnvM → Bag → Prop) {ds : List PD} (hs : src env B = .ok ds B1) (i : I env B1) (h : ∀ d ∈ ds, ∀ env B, I env B → ∃ e1, g d env = some e1 ∧ ∃ e2 B2, body e1 B = .nx e2 B2 ∧ I e2 B2) : ∃ e2 B2, mFor src g body env B = .nx e2 B2 ∧ I e2 B2 := by
  obtain ⟨e2, B2, h1, h2⟩ := loop_inv I h i
  exact ⟨e2, B2, by unfold mFor; rw [hs]; exact h1, h2⟩
/-- a comprehension that draws: each item by P -/
theorem lc_inv {g : PD → EnvM → Option EnvM} {m : EnvM → Bag → Res PD} {env0 : EnvM} (J : Bag → Prop) (P : PD → Prop) : ∀ {ds : List PD} {B : Bag}, (∀ d ∈ ds, ∃ e1, g d env0 = some e1 ∧ ∀ B, J B → ∃ y B2, m e1 B = .ok y B2 ∧ P y ∧ J B2) → J B → ∃ ys B2, mLcGo g mYes m env0 ds B = .ok ys B2 ∧ J B2 ∧ ys.length = ds.length ∧ ∀ y ∈ ys, P y
  | [], B, _, j => ⟨[], B, rfl, j, rfl, fun y hy => by cases hy⟩
  | d :: ds, B, h, j => by
    obtain ⟨e1, h1, hm⟩ := h d List.mem_cons_self
    obtain ⟨y, B2, h2, p, j2⟩ := hm B j
    obtain ⟨ys, B3, h3, j3, l3, p3⟩ := lc_inv J P (ds := ds) (fun d hd => h d (List.mem_cons_of_mem _ hd)) j2
    refine ⟨y :: ys, B3, ?_, j3, by simp [l3], fun z hz => ?_⟩
    · unfold mLcGo
      simp only [h1, mYes, h2, h3]
    · rcases List.mem_cons.mp hz with e | e
      · rw [e]; exact p
      · exact p3 z e
/-- a pure comprehension -/
theorem lc_pure {g : PD → EnvM → Option EnvM} {c : EnvM → Bag → Res Bool} {m : EnvM → Bag → Res PD} {env0 : EnvM} {B : Bag} (p : PD → Bool) (f : PD → PD) : ∀ {ds : List PD}, (∀ d ∈ ds, ∃ e1, g d env0 = some e1 ∧ c e1 B = .ok (p d) B ∧ (p d = true → m e1 B = .ok (f d) B)) → mLcGo g c m env0 ds B = .ok ((ds.filter p).map f) B
  | [], _ => rfl
  | d :: ds, h => by
    obtain ⟨e1, h1, h2, h3⟩ := h d List.mem_cons_self
    have ih := lc_pure p f (ds := ds) fun d hd => h d (List.mem_cons_of_mem _ hd)
    unfold mLcGo
    cases q : p d with
    | true =>
      rw [q] at h2
      simp only [h1, h2, h3 q, ih, List.filter_cons, q, if_true, List.map_cons]
    | false =>
      rw [q] at h2
      simp only [h1, h2, ih, List.filter_cons, q, Bool.false_eq_true, if_false]
theorem r_lc {vs : List Nat} {mi : EnvM → Bag → Res (List PD)} {g : PD → EnvM → Option EnvM} {c : EnvM → Bag → Res Bool} {m : EnvM → Bag → Res PD} {ds ys : List PD} (hi : mi env B = .ok ds B1) (hl : ds.length ≤ sizeLine) (h : mLcGo g c m (wipeE env vs) ds B1 = .ok ys B2) : mLc vs mi g c m env B = .ok (.list ys) B2 := by
  unfold mLc; rw [hi]; simp only [Res.bind, hl, if_true, h]
end
/-! numbers -/
theorem shaped_int (a : Int) : SeqAt.shaped (.int a) = true := by first | rfl | decide
theorem shaped_bool (a : Bool) : SeqAt.shaped (.bool a) = true := by cases a <;> first | rfl | decide
theorem eqP_int (a b : Int) : eqP (.int a) (.int b) = some (decide (a = b)) := by
  unfold eqP
  rw [if_pos ⟨shaped_int _, shaped_int _⟩]
  rfl
theorem neP_int (a b : Int) : neP (.int a) (.int b) = some (!decide (a = b)) := by
  unfold neP
  rw [if_pos ⟨shaped_int _, shaped_int _⟩]
  rfl
theorem neP_bool (a b : Bool) : neP (.bool a) (.bool b) = some (!(a == b)) := by
  unfold neP
  rw [if_pos ⟨shaped_bool _, shaped_bool _⟩]
  rfl
theorem addP_int (a b : Int) : addP (.int a) (.int b) = some (.int (a + b)) := rfl
theorem subP_int (a b : Int) : subP (.int a) (.int b) = some (.int (a - b)) := rfl
theorem ltP_int (a b : Int) : ltP (.int a) (.int b) = some (decide (a < b)) := rfl
theorem leP_int (a b : Int) : leP (.int a) (.int b) = some (decide (a ≤ b)) := rfl
theorem gtP_int (a b : Int) : gtP (.int a) (.int b) = some (decide (b < a)) := rfl
theorem geP_int (a b : Int) : geP (.int a) (.int b) = some (decide (b ≤ a)) := rfl
theorem modP_pos {a b : Int} (h : 0 < b) : modP (.int a) (.int b) = some (.int (a % b)) := by
  show (if b ≠ 0 then some (PyData.int (a.fmod b)) else none) = _
  rw [if_pos (by omega), Int.fmod_eq_emod_of_nonneg _ (by omega)]
theorem fdivP_pos {a b : Int} (h : 0 < b) (h2 : b < 1073741824) : fdivP (.int a) (.int b) = some (.int (a / b)) := by
  show (if b ≠ 0 ∧ b.natAbs < 1073741824 then some (PyData.int (a.fdiv b)) else none) = _
  rw [if_pos ⟨by omega, by omega⟩, Int.fdiv_eq_ediv_of_nonneg _ (by omega)]
theorem mulP_r {a b : Int} (h : -(2 ^ 64) < b ∧ b < 2 ^ 64) : mulP (.int a) (.int b) = some (.int (a * b)) := by
  show (if _ then _ else _) = _
  rw [if_pos (.inr h)]
theorem mulP_l {a b : Int} (h : -(2 ^ 64) < a ∧ a < 2 ^ 64) : mulP (.int a) (.int b) = some (.int (a * b)) := by
  show (if _ then _ else _) = _
  rw [if_pos (.inl h)]
theorem absP_int (a : Int) : (unD [.d (.int a)]).bind absP = some (.int (if a < 0 then -a else a)) := rfl
theorem intP_int (a : Int) : (unD [.d (.int a)]).bind intP = some (.int a) := rfl
theorem atI0 {α : Type} (d : α) (xs : List α) : atI (d :: xs) 0 = some d := by
  unfold atI ixN
  rw [if_pos (by omega), if_pos (by simp only [List.length_cons]; omega)]
  rfl
theorem atI_nat' {α : Type} {xs : List α} {j : Nat} {d : α} (h : xs[j]? = some d) : atI xs (j : Int) = some d := by
  have hj : j < xs.length := (List.getElem?_eq_some_iff.mp h).1
  unfold atI ixN
  rw [if_pos (by omega), if_pos (by omega)]
  exact h
end DL
set_option Elab.async false
set_option linter.all false
set_option maxRecDepth 100000
set_option maxHeartbeats 4000000
namespace DL
open PySem L2
/-! ### the mirrors -/
def d_LETTERS : PD := .str "abcdefghijklmnopqrstuvwxyz"
def d_MOST_NAME : PD := .int 8
def d_RESERVED : PD := .tuple [.str "band", .str "none", .str "pattern", .str "standing"]
def b_is_integer : EnvM → Bag → SRes := (mRet (mAndV (mIsi isIntB (mVar 0)) (mNotV (mIsi isBoolB (mVar 0)))))
def f_is_integer : List SV → Bag → Res PD := mFn 1 b_is_integer
def b_is_within : EnvM → Bag → SRes := (mRet (mAndV (mCall 1 f_is_integer (mCons (mG (mVar 0)) mNil)) (mB (mChain leP leP (mVar 1) (mVar 0) (mVar 2)))))
def f_is_within : List SV → Bag → Res PD := mFn 3 b_is_within
def b_is_name : EnvM → Bag → SRes := (mSeq (mIf (mOr (mNot (mTru truP (mIsi isStrB (mVar 0)))) (mOr (mNot (mChain leP leP (mC (.int 1)) (mCa lenP (mCons (mG (mVar 0)) mNil)) (mC d_MOST_NAME))) (mCmp inP (mVar 0) (mC d_RESERVED)))) (mRet (mC (.bool false))) mSkip)
  (mRet (mCa allP (mCons (mG (mLc [1] (mSeqOfS (mVar 0)) (mgName 1) mYes (mB (mCmp inP (mVar 1) (mC d_LETTERS))))) mNil))))
def f_is_name : List SV → Bag → Res PD := mFn 2 b_is_name
def b_are_names : EnvM → Bag → SRes := (mSeq (mIf (mOr (mNot (mTru truP (mIsi isTupB (mVar 0)))) (mOr (mNot (mChain leP leP (mVar 1) (mCa lenP (mCons (mG (mVar 0)) mNil)) (mVar 2))) (mNot (mTru truP (mCa allP (mCons (mG (mLc [3] (mSeqOfS (mVar 0)) (mgName 3) mYes (mCall 1 f_is_name (mCons (mG (mVar 3)) mNil)))) mNil)))))) (mRet (mC (.bool false))) mSkip)
  (mRet (mB (mCmp eqP (mDcLen 3 (mSeqOfS (mVar 0))) (mCa lenP (mCons (mG (mVar 0)) mNil))))))
def f_are_names : List SV → Bag → Res PD := mFn 4 b_are_names
def b_is_index_lot : EnvM → Bag → SRes := (mSeq (mIf (mOr (mNot (mTru truP (mIsi isTupB (mVar 0)))) (mOr (mCmp eqP (mVar 0) (mTup mNil)) (mNot (mTru truP (mCa allP (mCons (mG (mLc [2] (mSeqOfS (mVar 0)) (mgName 2) mYes (mCall 3 f_is_within (mCons (mG (mVar 2)) (mCons (mG (mC (.int 0))) (mCons (mG (mOp subP (mVar 1) (mC (.int 1)))) mNil)))))) mNil)))))) (mRet (mC (.bool false))) mSkip)
  (mRet (mB (mCmp eqP (mCa listP (mCons (mG (mVar 0)) mNil)) (mDcSrt 2 (mSeqOfS (mVar 0)))))))
def f_is_index_lot : List SV → Bag → Res PD := mFn 3 b_is_index_lot
noncomputable def b_divisor_of : EnvM → Bag → SRes := (mSeq (mWhile (mCmp neP (mVar 1) (mC (.int 0))) (mPar 0 1 (mCons (mG (mVar 1)) (mCons (mG (mOp modP (mVar 0) (mVar 1))) mNil))))
  (mRet (mVar 0)))
noncomputable def f_divisor_of : List SV → Bag → Res PD := mFn 2 b_divisor_of
noncomputable def b_is_fraction : EnvM → Bag → SRes := (mSeq (mIf (mOr (mNot (mTru truP (mIsi isTupB (mVar 0)))) (mOr (mCmp neP (mCa lenP (mCons (mG (mVar 0)) mNil)) (mC (.int 2))) (mNot (mTru truP (mCa allP (mCons (mG (mLc [1] (mSeqOfS (mVar 0)) (mgName 1) mYes (mCall 1 f_is_integer (mCons (mG (mVar 1)) mNil)))) mNil)))))) (mRet (mC (.bool false))) mSkip)
  (mRet (mAndV (mB (mCmp geP (mOp ixP (mVar 0) (mC (.int 1))) (mC (.int 1)))) (mB (mCmp eqP (mCall 2 f_divisor_of (mCons (mG (mCa absP (mCons (mG (mOp ixP (mVar 0) (mC (.int 0)))) mNil))) (mCons (mG (mOp ixP (mVar 0) (mC (.int 1)))) mNil))) (mC (.int 1)))))))
noncomputable def f_is_fraction : List SV → Bag → Res PD := mFn 2 b_is_fraction
def b__law_take : EnvM → Bag → SRes := (mSeq (mIf (mCmp eqP (mBagIx 0 0) (mC (.int 0))) (mSeq (mSet (mgName 2) (mOp ixP (mOp addP (mSl (mBagIx 0 3) (mPart (mBagIx 0 2)) mNoPart) (mLst (mCons (mG (mC (.int 0))) mNil))) (mC (.int 0))))
  (mSeq (mBagAug 0 2 1)
  (mSeq (mIf (mCmp geP (mVar 2) (mOp powP (mC (.int 10)) (mC (.int 18)))) (mBagSet 0 0 (mVar 2)) mSkip)
  (mSeq (mSet (mgName 3) (mOp addP (mOp addP (mOp mulP (mBagIx 0 1) (mC (.int 48271))) (mOp modP (mCa intP (mCons (mG (mVar 2)) mNil)) (mC (.int 2147483647)))) (mOp mulP (mC (.int 7919)) (mBagIx 0 2))))
  (mBagSet 0 1 (mOp modP (mCa intP (mCons (mG (mVar 3)) mNil)) (mC (.int 2147483647)))))))) mSkip)
  (mSeq (mIf (mCmp gtP (mBagIx 0 0) (mC (.int 0))) (mSeq (mSet (mgName 4) (mOp modP (mCa intP (mCons (mG (mBagIx 0 0)) mNil)) (mVar 1)))
  (mSeq (mBagSet 0 0 (mOp fdivP (mCa intP (mCons (mG (mBagIx 0 0)) mNil)) (mVar 1)))
  (mRet (mVar 4)))) mSkip)
  (mSeq (mSet (mgName 5) (mOp modP (mCa intP (mCons (mG (mOp mulP (mOp addP (mBagIx 0 1) (mC (.int 1))) (mC (.int 39373)))) mNil)) (mC (.int 1000000007))))
  (mSeq (mSet (mgName 6) (mOp modP (mCa intP (mCons (mG (mOp mulP (mOp modP (mCa intP (mCons (mG (mOp mulP (mVar 5) (mVar 5))) mNil)) (mC (.int 998244353))) (mC (.int 30011)))) mNil)) (mC (.int 998244353))))
  (mRet (mOp modP (mCa intP (mCons (mG (mOp fdivP (mVar 6) (mC (.int 7)))) mNil)) (mVar 1)))))))
def f__law_take : List SV → Bag → Res PD := mFn 7 b__law_take
def b__law_some : EnvM → Bag → SRes := (mRet (mOp ixP (mVar 1) (mCall 2 f__law_take (mCons (mBag 0) (mCons (mG (mCa lenP (mCons (mG (mVar 1)) mNil))) mNil)))))
def f__law_some : List SV → Bag → Res PD := mFn 2 b__law_some
noncomputable def b__law_alike : EnvM → Bag → SRes := (mSeq (mParOwn 2 3 (mCons (mG (mTup (mCons (mG (mVar 0)) (mCons (mG (mVar 1)) mNil)))) mNil) (mC (.int 0)))
  (mSeq (mWhile (mCmp ltP (mVar 3) (mLenOwn 2)) (mSeq (mSet (mgTup (mgCons (mgName 4) (mgCons (mgName 5) mgNil)) 2) (mIxOwn 2 (mVar 3)))
  (mSeq (mAug 3 (fun i j => i + j) (mC (.int 1)))
  (mSeq (mIf (mOr (mCmp neP (mIsi isBoolB (mVar 4)) (mIsi isBoolB (mVar 5))) (mCmp neP (mIsi isStrB (mVar 4)) (mIsi isStrB (mVar 5)))) (mRet (mC (.bool false))) mSkip)
  (mSeq (mIf (mCmp neP (mIsi2 isTupB isListB (mVar 4)) (mIsi2 isTupB isListB (mVar 5))) (mRet (mC (.bool false))) mSkip)
  (mIf (mTru truP (mIsi2 isTupB isListB (mVar 4))) (mSeq (mIf (mOr (mCmp neP (mIsi isTupB (mVar 4)) (mIsi isTupB (mVar 5))) (mCmp neP (mCa lenP (mCons (mG (mVar 4)) mNil)) (mCa lenP (mCons (mG (mVar 5)) mNil)))) (mRet (mC (.bool false))) mSkip)
  (mExt 2 (mCa zipP (mCons (mG (mVar 4)) (mCons (mG (mVar 5)) mNil))))) (mIf (mCmp neP (mVar 4) (mVar 5)) (mRet (mC (.bool false))) mSkip)))))))
  (mRet (mC (.bool true)))))
noncomputable def f__law_alike : List SV → Bag → Res PD := mFn 6 b__law_alike
def b__law_is_int : EnvM → Bag → SRes := (mRet (mAndV (mIsi isIntB (mVar 0)) (mNotV (mIsi isBoolB (mVar 0)))))
def f__law_is_int : List SV → Bag → Res PD := mFn 1 b__law_is_int
def b__law_divisor : EnvM → Bag → SRes := (mSeq (mFor (mRange1 (mCons (mG (mC (.int 3000))) mNil)) (mgName 2) (mSeq (mIf (mCmp eqP (mVar 1) (mC (.int 0))) (mRet (mVar 0)) mSkip)
  (mPar 0 1 (mCons (mG (mVar 1)) (mCons (mG (mOp modP (mCa intP (mCons (mG (mVar 0)) mNil)) (mVar 1))) mNil)))))
  (mRet (mC (.int 1))))
def f__law_divisor : List SV → Bag → Res PD := mFn 3 b__law_divisor
def b__law_lowest : EnvM → Bag → SRes := (mSeq (mSet (mgName 2) (mCall 2 f__law_divisor (mCons (mG (mCa absP (mCons (mG (mVar 0)) mNil))) (mCons (mG (mCa absP (mCons (mG (mVar 1)) mNil))) mNil))))
  (mSeq (mIf (mCmp ltP (mVar 1) (mC (.int 0))) (mSet (mgName 2) (mOp subP (mC (.int 0)) (mVar 2))) mSkip)
  (mRet (mTup (mCons (mG (mOp fdivP (mCa intP (mCons (mG (mVar 0)) mNil)) (mVar 2))) (mCons (mG (mOp fdivP (mCa intP (mCons (mG (mVar 1)) mNil)) (mVar 2))) mNil))))))
def f__law_lowest : List SV → Bag → Res PD := mFn 3 b__law_lowest
def b__law_is_fraction : EnvM → Bag → SRes := (mSeq (mIf (mOr (mNot (mTru truP (mIsi isTupB (mVar 0)))) (mOr (mCmp neP (mCa lenP (mCons (mG (mVar 0)) mNil)) (mC (.int 2))) (mOr (mNot (mTru truP (mCall 1 f__law_is_int (mCons (mG (mOp ixP (mVar 0) (mC (.int 0)))) mNil)))) (mNot (mTru truP (mCall 1 f__law_is_int (mCons (mG (mOp ixP (mVar 0) (mC (.int 1)))) mNil))))))) (mRet (mC (.bool false))) mSkip)
  (mRet (mAndV (mB (mCmp geP (mOp ixP (mVar 0) (mC (.int 1))) (mC (.int 1)))) (mB (mCmp eqP (mCall 2 f__law_divisor (mCons (mG (mCa absP (mCons (mG (mOp ixP (mVar 0) (mC (.int 0)))) mNil))) (mCons (mG (mOp ixP (mVar 0) (mC (.int 1)))) mNil))) (mC (.int 1)))))))
def f__law_is_fraction : List SV → Bag → Res PD := mFn 1 b__law_is_fraction
def b__law_is_name : EnvM → Bag → SRes := (mSeq (mIf (mOr (mNot (mTru truP (mIsi isStrB (mVar 0)))) (mOr (mNot (mChain leP leP (mC (.int 1)) (mCa lenP (mCons (mG (mVar 0)) mNil)) (mC (.int 8)))) (mCmp inP (mVar 0) (mTup (mCons (mG (mC (.str "band"))) (mCons (mG (mC (.str "none"))) (mCons (mG (mC (.str "pattern"))) (mCons (mG (mC (.str "standing"))) mNil)))))))) (mRet (mC (.bool false))) mSkip)
  (mRet (mB (mCmp eqP (mLc [1] (mSeqOfS (mVar 0)) (mgName 1) (mCmp ninP (mVar 1) (mC (.str "abcdefghijklmnopqrstuvwxyz"))) (mC (.int 1))) (mLst mNil)))))
def f__law_is_name : List SV → Bag → Res PD := mFn 2 b__law_is_name
def b__law_word : EnvM → Bag → SRes := (mSeq (mSet (mgName 1) (mLst (mCons (mG (mC (.str "a"))) (mCons (mG (mC (.str "zz"))) (mCons (mG (mC (.str "band"))) (mCons (mG (mC (.str "none"))) (mCons (mG (mC (.str "pattern"))) (mCons (mG (mC (.str "standing"))) (mCons (mG (mC (.str "bands"))) (mCons (mG (mC (.str "nones"))) (mCons (mG (mC (.str "standin"))) (mCons (mG (mC (.str "abcdefgh"))) mNil))))))))))))
  (mRet (mCall 2 f__law_some (mCons (mBag 0) (mCons (mG (mOp addP (mVar 1) (mLst (mCons (mG (mC (.str "abcdefghi"))) (mCons (mG (mC (.str ""))) (mCons (mG (mC (.str "A"))) (mCons (mG (mC (.str "a1"))) (mCons (mG (mC (.str "a "))) (mCons (mG (mC (.str "nos"))) (mCons (mG (mC (.str "a-b"))) (mCons (mG (mC .none)) (mCons (mG (mC (.int 7))) (mCons (mG (mC (.bool true))) (mCons (mG (mTup (mCons (mG (mC (.str "a"))) mNil))) (mCons (mG (mLst (mCons (mG (mC (.str "a"))) mNil))) mNil))))))))))))))) mNil)))))
def f__law_word : List SV → Bag → Res PD := mFn 2 b__law_word
/- word, number = (_law_word(bag), _law_some(bag, [0, 1, -1, 7, True, False, None, '1', 10 ** 40, (1,)])) -/
noncomputable def ml_0 : EnvM → Bag → SRes := (mPar 3 4 (mCons (mG (mCall 1 f__law_word (mCons (mBag 1) mNil))) (mCons (mG (mCall 2 f__law_some (mCons (mBag 1) (mCons (mG (mLst (mCons (mG (mC (.int 0))) (mCons (mG (mC (.int 1))) (mCons (mG (mNeg (mC (.int 1)))) (mCons (mG (mC (.int 7))) (mCons (mG (mC (.bool true))) (mCons (mG (mC (.bool false))) (mCons (mG (mC .none)) (mCons (mG (mC (.str "1"))) (mCons (mG (mOp powP (mC (.int 10)) (mC (.int 40)))) (mCons (mG (mTup (mCons (mG (mC (.int 1))) mNil))) mNil)))))))))))) mNil)))) mNil)))
/- least, most = (_law_take(bag, 4) - 1, _law_take(bag, 9)) -/
noncomputable def ml_1 : EnvM → Bag → SRes := (mPar 5 6 (mCons (mG (mOp subP (mCall 2 f__law_take (mCons (mBag 1) (mCons (mG (mC (.int 4))) mNil))) (mC (.int 1)))) (mCons (mG (mCall 2 f__law_take (mCons (mBag 1) (mCons (mG (mC (.int 9))) mNil)))) mNil)))
/- return False -/
noncomputable def ml_2 : EnvM → Bag → SRes := (mRet (mC (.bool false)))
/- if not _law_alike([is_name(word), is_integer(number)], [_law_is_name(word), _law_is_int(number)]): -/
noncomputable def ml_3 : EnvM → Bag → SRes := (mIf (mNot (mTru truP (mCall 2 f__law_alike (mCons (mG (mLst (mCons (mG (mCall 1 f_is_name (mCons (mG (mVar 3)) mNil))) (mCons (mG (mCall 1 f_is_integer (mCons (mG (mVar 4)) mNil))) mNil)))) (mCons (mG (mLst (mCons (mG (mCall 1 f__law_is_name (mCons (mG (mVar 3)) mNil))) (mCons (mG (mCall 1 f__law_is_int (mCons (mG (mVar 4)) mNil))) mNil)))) mNil))))) ml_2 mSkip)
/- return False -/
noncomputable def ml_4 : EnvM → Bag → SRes := (mRet (mC (.bool false)))
/- if not _law_alike(is_within(number, least, most), _law_is_int(number) and least <= number <= most): -/
noncomputable def ml_5 : EnvM → Bag → SRes := (mIf (mNot (mTru truP (mCall 2 f__law_alike (mCons (mG (mCall 3 f_is_within (mCons (mG (mVar 4)) (mCons (mG (mVar 5)) (mCons (mG (mVar 6)) mNil))))) (mCons (mG (mAndV (mCall 1 f__law_is_int (mCons (mG (mVar 4)) mNil)) (mB (mChain leP leP (mVar 5) (mVar 4) (mVar 6))))) mNil))))) ml_4 mSkip)
/- row = tuple([_law_word(bag) for at in range(_law_take(bag, 4))]) -/
noncomputable def ml_6 : EnvM → Bag → SRes := (mSet (mgName 7) (mCa tupleP (mCons (mG (mLc [16] (mRange1 (mCons (mG (mCall 2 f__law_take (mCons (mBag 1) (mCons (mG (mC (.int 4))) mNil)))) mNil)) (mgName 16) mYes (mCall 1 f__law_word (mCons (mBag 1) mNil)))) mNil)))
/- right = isinstance(thing, tuple) and [1 for one in thing if not _law_is_name(one)] == [] -/
noncomputable def ml_7 : EnvM → Bag → SRes := (mSet (mgName 9) (mAndV (mIsi isTupB (mVar 8)) (mB (mCmp eqP (mLc [17] (mSeqOfS (mVar 8)) (mgName 17) (mNot (mTru truP (mCall 1 f__law_is_name (mCons (mG (mVar 17)) mNil)))) (mC (.int 1))) (mLst mNil)))))
/- right = right and [1 for at in range(len(thing)) if thing[at] in thing[:at]] == [] -/
noncomputable def ml_8 : EnvM → Bag → SRes := (mSet (mgName 9) (mAndV (mVar 9) (mB (mCmp eqP (mLc [16] (mRange1 (mCons (mG (mCa lenP (mCons (mG (mVar 8)) mNil))) mNil)) (mgName 16) (mCmp inP (mOp ixP (mVar 8) (mVar 16)) (mSl (mVar 8) mNoPart (mPart (mVar 16)))) (mC (.int 1))) (mLst mNil)))))
/- right = right and least <= len(thing) <= most -/
noncomputable def ml_9 : EnvM → Bag → SRes := (mSet (mgName 9) (mAndV (mVar 9) (mB (mChain leP leP (mVar 5) (mCa lenP (mCons (mG (mVar 8)) mNil)) (mVar 6)))))
/- return False -/
noncomputable def ml_10 : EnvM → Bag → SRes := (mRet (mC (.bool false)))
/- if not _law_alike(are_names(thing, least, most), right): -/
noncomputable def ml_11 : EnvM → Bag → SRes := (mIf (mNot (mTru truP (mCall 2 f__law_alike (mCons (mG (mCall 3 f_are_names (mCons (mG (mVar 8)) (mCons (mG (mVar 5)) (mCons (mG (mVar 6)) mNil))))) (mCons (mG (mVar 9)) mNil))))) ml_10 mSkip)
/- for thing in (row, list(row), None, row + row, 'ab'): -/
noncomputable def ml_12 : EnvM → Bag → SRes := (mFor (mSeqOfS (mTup (mCons (mG (mVar 7)) (mCons (mG (mCa listP (mCons (mG (mVar 7)) mNil))) (mCons (mG (mC .none)) (mCons (mG (mOp addP (mVar 7) (mVar 7))) (mCons (mG (mC (.str "ab"))) mNil))))))) (mgName 8) (mSeq ml_7
  (mSeq ml_8
  (mSeq ml_9
  ml_11))))
/- lot = tuple(sorted(set([_law_take(bag, 5) for at in range(_law_take(bag, 5))]))) -/
noncomputable def ml_13 : EnvM → Bag → SRes := (mSet (mgName 10) (mCa tupleP (mCons (mG (mSrtSet (mLc [16] (mRange1 (mCons (mG (mCall 2 f__law_take (mCons (mBag 1) (mCons (mG (mC (.int 5))) mNil)))) mNil)) (mgName 16) mYes (mCall 2 f__law_take (mCons (mBag 1) (mCons (mG (mC (.int 5))) mNil)))))) mNil)))
/- some = tuple([_law_some(bag, [0, 1, 2, 3, -1, True, None, '1', 10 ** 30]) for at in range(_law_take(bag, 4))]) -/
noncomputable def ml_14 : EnvM → Bag → SRes := (mSet (mgName 11) (mCa tupleP (mCons (mG (mLc [16] (mRange1 (mCons (mG (mCall 2 f__law_take (mCons (mBag 1) (mCons (mG (mC (.int 4))) mNil)))) mNil)) (mgName 16) mYes (mCall 2 f__law_some (mCons (mBag 1) (mCons (mG (mLst (mCons (mG (mC (.int 0))) (mCons (mG (mC (.int 1))) (mCons (mG (mC (.int 2))) (mCons (mG (mC (.int 3))) (mCons (mG (mNeg (mC (.int 1)))) (mCons (mG (mC (.bool true))) (mCons (mG (mC .none)) (mCons (mG (mC (.str "1"))) (mCons (mG (mOp powP (mC (.int 10)) (mC (.int 30)))) mNil))))))))))) mNil))))) mNil)))
/- many = _law_take(bag, 6) -/
noncomputable def ml_15 : EnvM → Bag → SRes := (mSet (mgName 12) (mCall 2 f__law_take (mCons (mBag 1) (mCons (mG (mC (.int 6))) mNil))))
/- right = isinstance(thing, tuple) and thing != () and ([1 for one in thing if not _law_is_int(one)] == []) -/
noncomputable def ml_16 : EnvM → Bag → SRes := (mSet (mgName 9) (mAndV (mIsi isTupB (mVar 8)) (mAndV (mB (mCmp neP (mVar 8) (mTup mNil))) (mB (mCmp eqP (mLc [17] (mSeqOfS (mVar 8)) (mgName 17) (mNot (mTru truP (mCall 1 f__law_is_int (mCons (mG (mVar 17)) mNil)))) (mC (.int 1))) (mLst mNil))))))
/- right = right and list(thing) == sorted(set(thing)) and (0 <= thing[0]) and (thing[-1] < many) -/
noncomputable def ml_17 : EnvM → Bag → SRes := (mSet (mgName 9) (mAndV (mVar 9) (mAndV (mB (mCmp eqP (mCa listP (mCons (mG (mVar 8)) mNil)) (mSrtSet (mVar 8)))) (mAndV (mB (mCmp leP (mC (.int 0)) (mOp ixP (mVar 8) (mC (.int 0))))) (mB (mCmp ltP (mOp ixP (mVar 8) (mNeg (mC (.int 1)))) (mVar 12)))))))
/- return False -/
noncomputable def ml_18 : EnvM → Bag → SRes := (mRet (mC (.bool false)))
/- if not _law_alike(is_index_lot(thing, many), right): -/
noncomputable def ml_19 : EnvM → Bag → SRes := (mIf (mNot (mTru truP (mCall 2 f__law_alike (mCons (mG (mCall 2 f_is_index_lot (mCons (mG (mVar 8)) (mCons (mG (mVar 12)) mNil)))) (mCons (mG (mVar 9)) mNil))))) ml_18 mSkip)
/- for thing in (some, lot, list(lot), lot[::-1], (), None, 3): -/
noncomputable def ml_20 : EnvM → Bag → SRes := (mFor (mSeqOfS (mTup (mCons (mG (mVar 11)) (mCons (mG (mVar 10)) (mCons (mG (mCa listP (mCons (mG (mVar 10)) mNil))) (mCons (mG (mRev (mVar 10))) (mCons (mG (mTup mNil)) (mCons (mG (mC .none)) (mCons (mG (mC (.int 3))) mNil))))))))) (mgName 8) (mSeq ml_15
  (mSeq ml_16
  (mSeq ml_17
  ml_19))))
/- top, low = (_law_take(bag, 13) - 6, _law_take(bag, 8) - 1) -/
noncomputable def ml_21 : EnvM → Bag → SRes := (mPar 13 14 (mCons (mG (mOp subP (mCall 2 f__law_take (mCons (mBag 1) (mCons (mG (mC (.int 13))) mNil))) (mC (.int 6)))) (mCons (mG (mOp subP (mCall 2 f__law_take (mCons (mBag 1) (mCons (mG (mC (.int 8))) mNil))) (mC (.int 1)))) mNil)))
/- great = _law_lowest(10 ** 60 + _law_take(bag, 99), 1 + _law_take(bag, 10 ** 9)) -/
noncomputable def ml_22 : EnvM → Bag → SRes := (mSet (mgName 15) (mCall 2 f__law_lowest (mCons (mG (mOp addP (mOp powP (mC (.int 10)) (mC (.int 60))) (mCall 2 f__law_take (mCons (mBag 1) (mCons (mG (mC (.int 99))) mNil))))) (mCons (mG (mOp addP (mC (.int 1)) (mCall 2 f__law_take (mCons (mBag 1) (mCons (mG (mOp powP (mC (.int 10)) (mC (.int 9)))) mNil))))) mNil))))
/- return False -/
noncomputable def ml_23 : EnvM → Bag → SRes := (mRet (mC (.bool false)))
/- if not _law_alike(is_fraction(thing), _law_is_fraction(thing)): -/
noncomputable def ml_24 : EnvM → Bag → SRes := (mIf (mNot (mTru truP (mCall 2 f__law_alike (mCons (mG (mCall 1 f_is_fraction (mCons (mG (mVar 8)) mNil))) (mCons (mG (mCall 1 f__law_is_fraction (mCons (mG (mVar 8)) mNil))) mNil))))) ml_23 mSkip)
/- for thing in ((top, low), [top, low], (top,), (top, low, 1), None, 7, (True, 1), (1, True), ('1', 1), great, (2, 2), (0, 1), (0, 2)): -/
noncomputable def ml_25 : EnvM → Bag → SRes := (mFor (mSeqOfS (mTup (mCons (mG (mTup (mCons (mG (mVar 13)) (mCons (mG (mVar 14)) mNil)))) (mCons (mG (mLst (mCons (mG (mVar 13)) (mCons (mG (mVar 14)) mNil)))) (mCons (mG (mTup (mCons (mG (mVar 13)) mNil))) (mCons (mG (mTup (mCons (mG (mVar 13)) (mCons (mG (mVar 14)) (mCons (mG (mC (.int 1))) mNil))))) (mCons (mG (mC .none)) (mCons (mG (mC (.int 7))) (mCons (mG (mTup (mCons (mG (mC (.bool true))) (mCons (mG (mC (.int 1))) mNil)))) (mCons (mG (mTup (mCons (mG (mC (.int 1))) (mCons (mG (mC (.bool true))) mNil)))) (mCons (mG (mTup (mCons (mG (mC (.str "1"))) (mCons (mG (mC (.int 1))) mNil)))) (mCons (mG (mVar 15)) (mCons (mG (mTup (mCons (mG (mC (.int 2))) (mCons (mG (mC (.int 2))) mNil)))) (mCons (mG (mTup (mCons (mG (mC (.int 0))) (mCons (mG (mC (.int 1))) mNil)))) (mCons (mG (mTup (mCons (mG (mC (.int 0))) (mCons (mG (mC (.int 2))) mNil)))) mNil))))))))))))))) (mgName 8) ml_24)
/- for turn in range(10): -/
noncomputable def ml_26 : EnvM → Bag → SRes := (mFor (mRange1 (mCons (mG (mC (.int 10))) mNil)) (mgName 2) (mSeq ml_0
  (mSeq ml_1
  (mSeq ml_3
  (mSeq ml_5
  (mSeq ml_6
  (mSeq ml_12
  (mSeq ml_13
  (mSeq ml_14
  (mSeq ml_20
  (mSeq ml_21
  (mSeq ml_22
  ml_25))))))))))))
/- return True -/
noncomputable def ml_27 : EnvM → Bag → SRes := (mRet (mC (.bool true)))
noncomputable def m_law : EnvM → Bag → SRes := (mSeq ml_26
  ml_27)

end DL
set_option Elab.async false
set_option linter.all false
set_option maxRecDepth 100000
set_option maxHeartbeats 4000000
/-! P1: the draws. -/
namespace DL
open PySem L2
theorem cell_at (cells : List Nat) (k : Nat) (h : cells.length ≤ 63) : ∃ d, ∃ c : Nat, addP (.list (cutP (cells.map fun n : Nat => PyData.int (n : Int)) (some (k : Int)) none)) (.list [.int 0]) = some d ∧ ixP d (.int 0) = some (.int (c : Int)) := by
  have hl : (cutP (cells.map fun n : Nat => PyData.int (n : Int)) (some (k : Int)) none).length ≤ 63 := by
    unfold cutP
    rw [List.length_take, List.length_drop, List.length_map]
    omega
  have e : addP (.list (cutP (cells.map fun n : Nat => PyData.int (n : Int)) (some (k : Int)) none)) (.list [.int 0]) = some (.list (cutP (cells.map fun n : Nat => PyData.int (n : Int)) (some (k : Int)) none ++ [.int 0])) := by
    show (if _ then _ else _) = _
    rw [if_pos]
    rw [sizeLine_eq]
    show _ + 1 ≤ _
    omega
  suffices hh : ∃ c : Nat, atI (cutP (cells.map fun n : Nat => PyData.int (n : Int)) (some (k : Int)) none ++ [.int 0]) 0 = some (.int (c : Int)) by
    obtain ⟨c, hc⟩ := hh
    exact ⟨_, c, e, hc⟩
  cases q : (cutP (cells.map fun n : Nat => PyData.int (n : Int)) (some (k : Int)) none) with
  | nil => exact ⟨0, atI0 _ _⟩
  | cons d r =>
    have hd : d ∈ cells.map fun n : Nat => PyData.int (n : Int) := by
      have : d ∈ cutP (cells.map fun n : Nat => PyData.int (n : Int)) (some (k : Int)) none := by rw [q]; exact List.mem_cons_self
      exact List.mem_of_mem_drop (List.mem_of_mem_take this)
    obtain ⟨c, _, e⟩ := List.mem_map.mp hd
    exact ⟨c, by rw [← e]; exact atI0 _ _⟩
theorem pw18 : powP (.int 10) (.int 18) = some (.int (10 ^ 18)) := rfl
def tkA : EnvM → Bag → SRes := (mIf (mCmp eqP (mBagIx 0 0) (mC (.int 0))) (mSeq (mSet (mgName 2) (mOp ixP (mOp addP (mSl (mBagIx 0 3) (mPart (mBagIx 0 2)) mNoPart) (mLst (mCons (mG (mC (.int 0))) mNil))) (mC (.int 0))))
  (mSeq (mBagAug 0 2 1)
  (mSeq (mIf (mCmp geP (mVar 2) (mOp powP (mC (.int 10)) (mC (.int 18)))) (mBagSet 0 0 (mVar 2)) mSkip)
  (mSeq (mSet (mgName 3) (mOp addP (mOp addP (mOp mulP (mBagIx 0 1) (mC (.int 48271))) (mOp modP (mCa intP (mCons (mG (mVar 2)) mNil)) (mC (.int 2147483647)))) (mOp mulP (mC (.int 7919)) (mBagIx 0 2))))
  (mBagSet 0 1 (mOp modP (mCa intP (mCons (mG (mVar 3)) mNil)) (mC (.int 2147483647)))))))) mSkip)
def tkB : EnvM → Bag → SRes := (mSeq (mIf (mCmp gtP (mBagIx 0 0) (mC (.int 0))) (mSeq (mSet (mgName 4) (mOp modP (mCa intP (mCons (mG (mBagIx 0 0)) mNil)) (mVar 1)))
  (mSeq (mBagSet 0 0 (mOp fdivP (mCa intP (mCons (mG (mBagIx 0 0)) mNil)) (mVar 1)))
  (mRet (mVar 4)))) mSkip)
  (mSeq (mSet (mgName 5) (mOp modP (mCa intP (mCons (mG (mOp mulP (mOp addP (mBagIx 0 1) (mC (.int 1))) (mC (.int 39373)))) mNil)) (mC (.int 1000000007))))
  (mSeq (mSet (mgName 6) (mOp modP (mCa intP (mCons (mG (mOp mulP (mOp modP (mCa intP (mCons (mG (mOp mulP (mVar 5) (mVar 5))) mNil)) (mC (.int 998244353))) (mC (.int 30011)))) mNil)) (mC (.int 998244353))))
  (mRet (mOp modP (mCa intP (mCons (mG (mOp fdivP (mVar 6) (mC (.int 7)))) mNil)) (mVar 1))))))
theorem tkB_ok (n : Int) (h1 : 1 ≤ n) (h2 : n < 1073741824) (s0 s1 s2 : Nat) (cells : List Nat) (o2 o3 : Option SV) : ∃ r B', tkB [some .bag, some (.d (.int n)), o2, o3, none, none, none] ⟨s0, s1, s2, cells⟩ = .ret (.int r) B' ∧ 0 ≤ r ∧ r < n ∧ B'.cells = cells := by
  unfold tkB
  have hn : 0 < n := by omega
  by_cases h0 : 0 < s0
  · have hp : gtP (.int (s0 : Int)) (.int 0) = some true := by rw [gtP_int, decide_eq_true (by omega)]
    have hd : 0 ≤ (s0 : Int) / n := Int.ediv_nonneg (by omega) (by omega)
    have hq := fdivP_pos (a := (s0 : Int)) hn h2
    refine ⟨?r0, ?B0, ?h0, ?p0, ?q0, ?c0⟩
    case h0 =>
      refine s_seqR (s_ifT (by repeat' first | with_reducible assumption | with_reducible exact r_c | with_reducible exact r_noPart | with_reducible exact r_nil | with_reducible exact s_skip | with_reducible apply r_var | with_reducible apply r_bag | with_reducible apply r_op | with_reducible apply r_cmp | with_reducible apply r_b | with_reducible apply r_isi | with_reducible apply r_isi2 | with_reducible apply r_neg | with_reducible apply r_g | with_reducible apply r_cons | with_reducible apply r_tup | with_reducible apply r_lst | with_reducible apply r_ca | with_reducible apply r_bagIx | with_reducible apply r_sl | with_reducible apply r_part | with_reducible apply r_not | with_reducible apply r_rev | with_reducible apply r_seqT | with_reducible apply s_set | with_reducible apply s_par | with_reducible apply s_ret | with_reducible apply s_bagSet | with_reducible apply s_bagAug | with_reducible exact addP_int _ _ | with_reducible exact subP_int _ _ | with_reducible exact eqP_int _ _ | with_reducible exact neP_int _ _ | with_reducible exact ltP_int _ _ | with_reducible exact leP_int _ _ | with_reducible exact gtP_int _ _ | with_reducible exact geP_int _ _ | with_reducible exact intP_int _ | with_reducible exact absP_int _ | with_reducible exact modP_pos (by first | assumption | decide) | with_reducible exact mulP_r (by decide) | with_reducible exact mulP_l (by decide) | exact rfl) ?_)
      refine s_seq (by repeat' first | with_reducible assumption | with_reducible exact r_c | with_reducible exact r_noPart | with_reducible exact r_nil | with_reducible exact s_skip | with_reducible apply r_var | with_reducible apply r_bag | with_reducible apply r_op | with_reducible apply r_cmp | with_reducible apply r_b | with_reducible apply r_isi | with_reducible apply r_isi2 | with_reducible apply r_neg | with_reducible apply r_g | with_reducible apply r_cons | with_reducible apply r_tup | with_reducible apply r_lst | with_reducible apply r_ca | with_reducible apply r_bagIx | with_reducible apply r_sl | with_reducible apply r_part | with_reducible apply r_not | with_reducible apply r_rev | with_reducible apply r_seqT | with_reducible apply s_set | with_reducible apply s_par | with_reducible apply s_ret | with_reducible apply s_bagSet | with_reducible apply s_bagAug | with_reducible exact addP_int _ _ | with_reducible exact subP_int _ _ | with_reducible exact eqP_int _ _ | with_reducible exact neP_int _ _ | with_reducible exact ltP_int _ _ | with_reducible exact leP_int _ _ | with_reducible exact gtP_int _ _ | with_reducible exact geP_int _ _ | with_reducible exact intP_int _ | with_reducible exact absP_int _ | with_reducible exact modP_pos (by first | assumption | decide) | with_reducible exact mulP_r (by decide) | with_reducible exact mulP_l (by decide) | exact rfl) (s_seq (by repeat' first | with_reducible assumption | with_reducible exact r_c | with_reducible exact r_noPart | with_reducible exact r_nil | with_reducible exact s_skip | with_reducible apply r_var | with_reducible apply r_bag | with_reducible apply r_op | with_reducible apply r_cmp | with_reducible apply r_b | with_reducible apply r_isi | with_reducible apply r_isi2 | with_reducible apply r_neg | with_reducible apply r_g | with_reducible apply r_cons | with_reducible apply r_tup | with_reducible apply r_lst | with_reducible apply r_ca | with_reducible apply r_bagIx | with_reducible apply r_sl | with_reducible apply r_part | with_reducible apply r_not | with_reducible apply r_rev | with_reducible apply r_seqT | with_reducible apply s_set | with_reducible apply s_par | with_reducible apply s_ret | with_reducible apply s_bagSet | with_reducible apply s_bagAug | with_reducible exact addP_int _ _ | with_reducible exact subP_int _ _ | with_reducible exact eqP_int _ _ | with_reducible exact neP_int _ _ | with_reducible exact ltP_int _ _ | with_reducible exact leP_int _ _ | with_reducible exact gtP_int _ _ | with_reducible exact geP_int _ _ | with_reducible exact intP_int _ | with_reducible exact absP_int _ | with_reducible exact modP_pos (by first | assumption | decide) | with_reducible exact mulP_r (by decide) | with_reducible exact mulP_l (by decide) | exact rfl) (s_ret (by repeat' first | with_reducible assumption | with_reducible exact r_c | with_reducible exact r_noPart | with_reducible exact r_nil | with_reducible exact s_skip | with_reducible apply r_var | with_reducible apply r_bag | with_reducible apply r_op | with_reducible apply r_cmp | with_reducible apply r_b | with_reducible apply r_isi | with_reducible apply r_isi2 | with_reducible apply r_neg | with_reducible apply r_g | with_reducible apply r_cons | with_reducible apply r_tup | with_reducible apply r_lst | with_reducible apply r_ca | with_reducible apply r_bagIx | with_reducible apply r_sl | with_reducible apply r_part | with_reducible apply r_not | with_reducible apply r_rev | with_reducible apply r_seqT | with_reducible apply s_set | with_reducible apply s_par | with_reducible apply s_ret | with_reducible apply s_bagSet | with_reducible apply s_bagAug | with_reducible exact addP_int _ _ | with_reducible exact subP_int _ _ | with_reducible exact eqP_int _ _ | with_reducible exact neP_int _ _ | with_reducible exact ltP_int _ _ | with_reducible exact leP_int _ _ | with_reducible exact gtP_int _ _ | with_reducible exact geP_int _ _ | with_reducible exact intP_int _ | with_reducible exact absP_int _ | with_reducible exact modP_pos (by first | assumption | decide) | with_reducible exact mulP_r (by decide) | with_reducible exact mulP_l (by decide) | exact rfl)))
    case p0 => exact Int.emod_nonneg _ (by omega)
    case q0 => exact Int.emod_lt_of_pos _ (by omega)
    case c0 => rfl
  · have hp : gtP (.int (s0 : Int)) (.int 0) = some false := by rw [gtP_int, decide_eq_false (by omega)]
    have m1 : ∀ x : Int, mulP (.int (x % 1000000007)) (.int (x % 1000000007)) = some (.int ((x % 1000000007) * (x % 1000000007))) := fun x => mulP_l ⟨by omega, by omega⟩
    have m7 : ∀ x : Int, fdivP (.int x) (.int 7) = some (.int (x / 7)) := fun x => fdivP_pos (by decide) (by decide)
    refine ⟨?r1, ?B1, ?h1, ?p1, ?q1, ?c1⟩
    case h1 =>
      refine s_seq (s_ifF (by repeat' first | with_reducible assumption | with_reducible exact r_c | with_reducible exact r_noPart | with_reducible exact r_nil | with_reducible exact s_skip | with_reducible apply r_var | with_reducible apply r_bag | with_reducible apply r_op | with_reducible apply r_cmp | with_reducible apply r_b | with_reducible apply r_isi | with_reducible apply r_isi2 | with_reducible apply r_neg | with_reducible apply r_g | with_reducible apply r_cons | with_reducible apply r_tup | with_reducible apply r_lst | with_reducible apply r_ca | with_reducible apply r_bagIx | with_reducible apply r_sl | with_reducible apply r_part | with_reducible apply r_not | with_reducible apply r_rev | with_reducible apply r_seqT | with_reducible apply s_set | with_reducible apply s_par | with_reducible apply s_ret | with_reducible apply s_bagSet | with_reducible apply s_bagAug | with_reducible exact addP_int _ _ | with_reducible exact subP_int _ _ | with_reducible exact eqP_int _ _ | with_reducible exact neP_int _ _ | with_reducible exact ltP_int _ _ | with_reducible exact leP_int _ _ | with_reducible exact gtP_int _ _ | with_reducible exact geP_int _ _ | with_reducible exact intP_int _ | with_reducible exact absP_int _ | with_reducible exact modP_pos (by first | assumption | decide) | with_reducible exact mulP_r (by decide) | with_reducible exact mulP_l (by decide) | exact rfl) s_skip) ?_
      refine s_seq (by repeat' first | with_reducible assumption | with_reducible exact r_c | with_reducible exact r_noPart | with_reducible exact r_nil | with_reducible exact s_skip | with_reducible apply r_var | with_reducible apply r_bag | with_reducible apply r_op | with_reducible apply r_cmp | with_reducible apply r_b | with_reducible apply r_isi | with_reducible apply r_isi2 | with_reducible apply r_neg | with_reducible apply r_g | with_reducible apply r_cons | with_reducible apply r_tup | with_reducible apply r_lst | with_reducible apply r_ca | with_reducible apply r_bagIx | with_reducible apply r_sl | with_reducible apply r_part | with_reducible apply r_not | with_reducible apply r_rev | with_reducible apply r_seqT | with_reducible apply s_set | with_reducible apply s_par | with_reducible apply s_ret | with_reducible apply s_bagSet | with_reducible apply s_bagAug | with_reducible exact addP_int _ _ | with_reducible exact subP_int _ _ | with_reducible exact eqP_int _ _ | with_reducible exact neP_int _ _ | with_reducible exact ltP_int _ _ | with_reducible exact leP_int _ _ | with_reducible exact gtP_int _ _ | with_reducible exact geP_int _ _ | with_reducible exact intP_int _ | with_reducible exact absP_int _ | with_reducible exact modP_pos (by first | assumption | decide) | with_reducible exact mulP_r (by decide) | with_reducible exact mulP_l (by decide) | exact rfl) (s_seq (by repeat' first | with_reducible assumption | with_reducible exact m1 _ | with_reducible exact r_c | with_reducible exact r_noPart | with_reducible exact r_nil | with_reducible exact s_skip | with_reducible apply r_var | with_reducible apply r_bag | with_reducible apply r_op | with_reducible apply r_cmp | with_reducible apply r_b | with_reducible apply r_isi | with_reducible apply r_isi2 | with_reducible apply r_neg | with_reducible apply r_g | with_reducible apply r_cons | with_reducible apply r_tup | with_reducible apply r_lst | with_reducible apply r_ca | with_reducible apply r_bagIx | with_reducible apply r_sl | with_reducible apply r_part | with_reducible apply r_not | with_reducible apply r_rev | with_reducible apply r_seqT | with_reducible apply s_set | with_reducible apply s_par | with_reducible apply s_ret | with_reducible apply s_bagSet | with_reducible apply s_bagAug | with_reducible exact addP_int _ _ | with_reducible exact subP_int _ _ | with_reducible exact eqP_int _ _ | with_reducible exact neP_int _ _ | with_reducible exact ltP_int _ _ | with_reducible exact leP_int _ _ | with_reducible exact gtP_int _ _ | with_reducible exact geP_int _ _ | with_reducible exact intP_int _ | with_reducible exact absP_int _ | with_reducible exact modP_pos (by first | assumption | decide) | with_reducible exact mulP_r (by decide) | with_reducible exact mulP_l (by decide) | exact rfl) (s_ret (by repeat' first | with_reducible assumption | with_reducible exact m7 _ | with_reducible exact r_c | with_reducible exact r_noPart | with_reducible exact r_nil | with_reducible exact s_skip | with_reducible apply r_var | with_reducible apply r_bag | with_reducible apply r_op | with_reducible apply r_cmp | with_reducible apply r_b | with_reducible apply r_isi | with_reducible apply r_isi2 | with_reducible apply r_neg | with_reducible apply r_g | with_reducible apply r_cons | with_reducible apply r_tup | with_reducible apply r_lst | with_reducible apply r_ca | with_reducible apply r_bagIx | with_reducible apply r_sl | with_reducible apply r_part | with_reducible apply r_not | with_reducible apply r_rev | with_reducible apply r_seqT | with_reducible apply s_set | with_reducible apply s_par | with_reducible apply s_ret | with_reducible apply s_bagSet | with_reducible apply s_bagAug | with_reducible exact addP_int _ _ | with_reducible exact subP_int _ _ | with_reducible exact eqP_int _ _ | with_reducible exact neP_int _ _ | with_reducible exact ltP_int _ _ | with_reducible exact leP_int _ _ | with_reducible exact gtP_int _ _ | with_reducible exact geP_int _ _ | with_reducible exact intP_int _ | with_reducible exact absP_int _ | with_reducible exact modP_pos (by first | assumption | decide) | with_reducible exact mulP_r (by decide) | with_reducible exact mulP_l (by decide) | exact rfl)))
    case p1 => exact Int.emod_nonneg _ (by omega)
    case q1 => exact Int.emod_lt_of_pos _ (by omega)
    case c1 => rfl
theorem tkA_ok (n : Int) (s0 s1 s2 : Nat) (cells : List Nat) (hc : cells.length ≤ 63) : ∃ o2 o3 s0' s1' s2', tkA [some .bag, some (.d (.int n)), none, none, none, none, none] ⟨s0, s1, s2, cells⟩ = .nx [some .bag, some (.d (.int n)), o2, o3, none, none, none] ⟨s0', s1', s2', cells⟩ := by
  unfold tkA
  by_cases h0 : s0 = 0
  · subst h0
    obtain ⟨d, c, ea, hcell⟩ := cell_at cells s2 hc
    have nn : ∀ x : Int, 0 ≤ x % 2147483647 := fun x => Int.emod_nonneg _ (by decide)
    have e0 : eqP (.int ((0 : Nat) : Int)) (.int 0) = some true := by rw [eqP_int]; rfl
    have sl : [PyData.int 0].length ≤ sizeLine := by decide
    have p18 := pw18
    by_cases hb : (10 : Int) ^ 18 ≤ (c : Int)
    · have hge : geP (.int (c : Int)) (.int (10 ^ 18)) = some true := by rw [geP_int, decide_eq_true hb]
      have h0c : 0 ≤ (c : Int) := by omega
      refine ⟨?o23, ?o33, ?a3, ?b3, ?c3, ?h3⟩
      case h3 =>
        refine s_ifT (by repeat' first | with_reducible assumption | with_reducible exact r_c | with_reducible exact r_noPart | with_reducible exact r_nil | with_reducible exact s_skip | with_reducible apply r_var | with_reducible apply r_bag | with_reducible apply r_op | with_reducible apply r_cmp | with_reducible apply r_b | with_reducible apply r_isi | with_reducible apply r_isi2 | with_reducible apply r_neg | with_reducible apply r_g | with_reducible apply r_cons | with_reducible apply r_tup | with_reducible apply r_lst | with_reducible apply r_ca | with_reducible apply r_bagIx | with_reducible apply r_sl | with_reducible apply r_part | with_reducible apply r_not | with_reducible apply r_rev | with_reducible apply r_seqT | with_reducible apply s_set | with_reducible apply s_par | with_reducible apply s_ret | with_reducible apply s_bagSet | with_reducible apply s_bagAug | with_reducible exact addP_int _ _ | with_reducible exact subP_int _ _ | with_reducible exact eqP_int _ _ | with_reducible exact neP_int _ _ | with_reducible exact ltP_int _ _ | with_reducible exact leP_int _ _ | with_reducible exact gtP_int _ _ | with_reducible exact geP_int _ _ | with_reducible exact intP_int _ | with_reducible exact absP_int _ | with_reducible exact modP_pos (by first | assumption | decide) | with_reducible exact mulP_r (by decide) | with_reducible exact mulP_l (by decide) | exact rfl) (s_seq (by repeat' first | with_reducible assumption | with_reducible exact r_c | with_reducible exact r_noPart | with_reducible exact r_nil | with_reducible exact s_skip | with_reducible apply r_var | with_reducible apply r_bag | with_reducible apply r_op | with_reducible apply r_cmp | with_reducible apply r_b | with_reducible apply r_isi | with_reducible apply r_isi2 | with_reducible apply r_neg | with_reducible apply r_g | with_reducible apply r_cons | with_reducible apply r_tup | with_reducible apply r_lst | with_reducible apply r_ca | with_reducible apply r_bagIx | with_reducible apply r_sl | with_reducible apply r_part | with_reducible apply r_not | with_reducible apply r_rev | with_reducible apply r_seqT | with_reducible apply s_set | with_reducible apply s_par | with_reducible apply s_ret | with_reducible apply s_bagSet | with_reducible apply s_bagAug | with_reducible exact addP_int _ _ | with_reducible exact subP_int _ _ | with_reducible exact eqP_int _ _ | with_reducible exact neP_int _ _ | with_reducible exact ltP_int _ _ | with_reducible exact leP_int _ _ | with_reducible exact gtP_int _ _ | with_reducible exact geP_int _ _ | with_reducible exact intP_int _ | with_reducible exact absP_int _ | with_reducible exact modP_pos (by first | assumption | decide) | with_reducible exact mulP_r (by decide) | with_reducible exact mulP_l (by decide) | exact rfl) (s_seq (by repeat' first | with_reducible assumption | with_reducible exact r_c | with_reducible exact r_noPart | with_reducible exact r_nil | with_reducible exact s_skip | with_reducible apply r_var | with_reducible apply r_bag | with_reducible apply r_op | with_reducible apply r_cmp | with_reducible apply r_b | with_reducible apply r_isi | with_reducible apply r_isi2 | with_reducible apply r_neg | with_reducible apply r_g | with_reducible apply r_cons | with_reducible apply r_tup | with_reducible apply r_lst | with_reducible apply r_ca | with_reducible apply r_bagIx | with_reducible apply r_sl | with_reducible apply r_part | with_reducible apply r_not | with_reducible apply r_rev | with_reducible apply r_seqT | with_reducible apply s_set | with_reducible apply s_par | with_reducible apply s_ret | with_reducible apply s_bagSet | with_reducible apply s_bagAug | with_reducible exact addP_int _ _ | with_reducible exact subP_int _ _ | with_reducible exact eqP_int _ _ | with_reducible exact neP_int _ _ | with_reducible exact ltP_int _ _ | with_reducible exact leP_int _ _ | with_reducible exact gtP_int _ _ | with_reducible exact geP_int _ _ | with_reducible exact intP_int _ | with_reducible exact absP_int _ | with_reducible exact modP_pos (by first | assumption | decide) | with_reducible exact mulP_r (by decide) | with_reducible exact mulP_l (by decide) | exact rfl) (s_seq (s_ifT (by repeat' first | with_reducible assumption | with_reducible exact r_c | with_reducible exact r_noPart | with_reducible exact r_nil | with_reducible exact s_skip | with_reducible apply r_var | with_reducible apply r_bag | with_reducible apply r_op | with_reducible apply r_cmp | with_reducible apply r_b | with_reducible apply r_isi | with_reducible apply r_isi2 | with_reducible apply r_neg | with_reducible apply r_g | with_reducible apply r_cons | with_reducible apply r_tup | with_reducible apply r_lst | with_reducible apply r_ca | with_reducible apply r_bagIx | with_reducible apply r_sl | with_reducible apply r_part | with_reducible apply r_not | with_reducible apply r_rev | with_reducible apply r_seqT | with_reducible apply s_set | with_reducible apply s_par | with_reducible apply s_ret | with_reducible apply s_bagSet | with_reducible apply s_bagAug | with_reducible exact addP_int _ _ | with_reducible exact subP_int _ _ | with_reducible exact eqP_int _ _ | with_reducible exact neP_int _ _ | with_reducible exact ltP_int _ _ | with_reducible exact leP_int _ _ | with_reducible exact gtP_int _ _ | with_reducible exact geP_int _ _ | with_reducible exact intP_int _ | with_reducible exact absP_int _ | with_reducible exact modP_pos (by first | assumption | decide) | with_reducible exact mulP_r (by decide) | with_reducible exact mulP_l (by decide) | exact rfl) (by repeat' first | with_reducible assumption | with_reducible exact r_c | with_reducible exact r_noPart | with_reducible exact r_nil | with_reducible exact s_skip | with_reducible apply r_var | with_reducible apply r_bag | with_reducible apply r_op | with_reducible apply r_cmp | with_reducible apply r_b | with_reducible apply r_isi | with_reducible apply r_isi2 | with_reducible apply r_neg | with_reducible apply r_g | with_reducible apply r_cons | with_reducible apply r_tup | with_reducible apply r_lst | with_reducible apply r_ca | with_reducible apply r_bagIx | with_reducible apply r_sl | with_reducible apply r_part | with_reducible apply r_not | with_reducible apply r_rev | with_reducible apply r_seqT | with_reducible apply s_set | with_reducible apply s_par | with_reducible apply s_ret | with_reducible apply s_bagSet | with_reducible apply s_bagAug | with_reducible exact addP_int _ _ | with_reducible exact subP_int _ _ | with_reducible exact eqP_int _ _ | with_reducible exact neP_int _ _ | with_reducible exact ltP_int _ _ | with_reducible exact leP_int _ _ | with_reducible exact gtP_int _ _ | with_reducible exact geP_int _ _ | with_reducible exact intP_int _ | with_reducible exact absP_int _ | with_reducible exact modP_pos (by first | assumption | decide) | with_reducible exact mulP_r (by decide) | with_reducible exact mulP_l (by decide) | exact rfl)) (s_seq (by repeat' first | with_reducible assumption | with_reducible exact r_c | with_reducible exact r_noPart | with_reducible exact r_nil | with_reducible exact s_skip | with_reducible apply r_var | with_reducible apply r_bag | with_reducible apply r_op | with_reducible apply r_cmp | with_reducible apply r_b | with_reducible apply r_isi | with_reducible apply r_isi2 | with_reducible apply r_neg | with_reducible apply r_g | with_reducible apply r_cons | with_reducible apply r_tup | with_reducible apply r_lst | with_reducible apply r_ca | with_reducible apply r_bagIx | with_reducible apply r_sl | with_reducible apply r_part | with_reducible apply r_not | with_reducible apply r_rev | with_reducible apply r_seqT | with_reducible apply s_set | with_reducible apply s_par | with_reducible apply s_ret | with_reducible apply s_bagSet | with_reducible apply s_bagAug | with_reducible exact addP_int _ _ | with_reducible exact subP_int _ _ | with_reducible exact eqP_int _ _ | with_reducible exact neP_int _ _ | with_reducible exact ltP_int _ _ | with_reducible exact leP_int _ _ | with_reducible exact gtP_int _ _ | with_reducible exact geP_int _ _ | with_reducible exact intP_int _ | with_reducible exact absP_int _ | with_reducible exact modP_pos (by first | assumption | decide) | with_reducible exact mulP_r (by decide) | with_reducible exact mulP_l (by decide) | exact rfl) (by repeat' first | with_reducible assumption | with_reducible exact nn _ | with_reducible exact r_c | with_reducible exact r_noPart | with_reducible exact r_nil | with_reducible exact s_skip | with_reducible apply r_var | with_reducible apply r_bag | with_reducible apply r_op | with_reducible apply r_cmp | with_reducible apply r_b | with_reducible apply r_isi | with_reducible apply r_isi2 | with_reducible apply r_neg | with_reducible apply r_g | with_reducible apply r_cons | with_reducible apply r_tup | with_reducible apply r_lst | with_reducible apply r_ca | with_reducible apply r_bagIx | with_reducible apply r_sl | with_reducible apply r_part | with_reducible apply r_not | with_reducible apply r_rev | with_reducible apply r_seqT | with_reducible apply s_set | with_reducible apply s_par | with_reducible apply s_ret | with_reducible apply s_bagSet | with_reducible apply s_bagAug | with_reducible exact addP_int _ _ | with_reducible exact subP_int _ _ | with_reducible exact eqP_int _ _ | with_reducible exact neP_int _ _ | with_reducible exact ltP_int _ _ | with_reducible exact leP_int _ _ | with_reducible exact gtP_int _ _ | with_reducible exact geP_int _ _ | with_reducible exact intP_int _ | with_reducible exact absP_int _ | with_reducible exact modP_pos (by first | assumption | decide) | with_reducible exact mulP_r (by decide) | with_reducible exact mulP_l (by decide) | exact rfl)))))
    · have hge : geP (.int (c : Int)) (.int (10 ^ 18)) = some false := by rw [geP_int, decide_eq_false hb]
      refine ⟨?o25, ?o35, ?a5, ?b5, ?c5, ?h5⟩
      case h5 =>
        refine s_ifT (by repeat' first | with_reducible assumption | with_reducible exact r_c | with_reducible exact r_noPart | with_reducible exact r_nil | with_reducible exact s_skip | with_reducible apply r_var | with_reducible apply r_bag | with_reducible apply r_op | with_reducible apply r_cmp | with_reducible apply r_b | with_reducible apply r_isi | with_reducible apply r_isi2 | with_reducible apply r_neg | with_reducible apply r_g | with_reducible apply r_cons | with_reducible apply r_tup | with_reducible apply r_lst | with_reducible apply r_ca | with_reducible apply r_bagIx | with_reducible apply r_sl | with_reducible apply r_part | with_reducible apply r_not | with_reducible apply r_rev | with_reducible apply r_seqT | with_reducible apply s_set | with_reducible apply s_par | with_reducible apply s_ret | with_reducible apply s_bagSet | with_reducible apply s_bagAug | with_reducible exact addP_int _ _ | with_reducible exact subP_int _ _ | with_reducible exact eqP_int _ _ | with_reducible exact neP_int _ _ | with_reducible exact ltP_int _ _ | with_reducible exact leP_int _ _ | with_reducible exact gtP_int _ _ | with_reducible exact geP_int _ _ | with_reducible exact intP_int _ | with_reducible exact absP_int _ | with_reducible exact modP_pos (by first | assumption | decide) | with_reducible exact mulP_r (by decide) | with_reducible exact mulP_l (by decide) | exact rfl) (s_seq (by repeat' first | with_reducible assumption | with_reducible exact r_c | with_reducible exact r_noPart | with_reducible exact r_nil | with_reducible exact s_skip | with_reducible apply r_var | with_reducible apply r_bag | with_reducible apply r_op | with_reducible apply r_cmp | with_reducible apply r_b | with_reducible apply r_isi | with_reducible apply r_isi2 | with_reducible apply r_neg | with_reducible apply r_g | with_reducible apply r_cons | with_reducible apply r_tup | with_reducible apply r_lst | with_reducible apply r_ca | with_reducible apply r_bagIx | with_reducible apply r_sl | with_reducible apply r_part | with_reducible apply r_not | with_reducible apply r_rev | with_reducible apply r_seqT | with_reducible apply s_set | with_reducible apply s_par | with_reducible apply s_ret | with_reducible apply s_bagSet | with_reducible apply s_bagAug | with_reducible exact addP_int _ _ | with_reducible exact subP_int _ _ | with_reducible exact eqP_int _ _ | with_reducible exact neP_int _ _ | with_reducible exact ltP_int _ _ | with_reducible exact leP_int _ _ | with_reducible exact gtP_int _ _ | with_reducible exact geP_int _ _ | with_reducible exact intP_int _ | with_reducible exact absP_int _ | with_reducible exact modP_pos (by first | assumption | decide) | with_reducible exact mulP_r (by decide) | with_reducible exact mulP_l (by decide) | exact rfl) (s_seq (by repeat' first | with_reducible assumption | with_reducible exact r_c | with_reducible exact r_noPart | with_reducible exact r_nil | with_reducible exact s_skip | with_reducible apply r_var | with_reducible apply r_bag | with_reducible apply r_op | with_reducible apply r_cmp | with_reducible apply r_b | with_reducible apply r_isi | with_reducible apply r_isi2 | with_reducible apply r_neg | with_reducible apply r_g | with_reducible apply r_cons | with_reducible apply r_tup | with_reducible apply r_lst | with_reducible apply r_ca | with_reducible apply r_bagIx | with_reducible apply r_sl | with_reducible apply r_part | with_reducible apply r_not | with_reducible apply r_rev | with_reducible apply r_seqT | with_reducible apply s_set | with_reducible apply s_par | with_reducible apply s_ret | with_reducible apply s_bagSet | with_reducible apply s_bagAug | with_reducible exact addP_int _ _ | with_reducible exact subP_int _ _ | with_reducible exact eqP_int _ _ | with_reducible exact neP_int _ _ | with_reducible exact ltP_int _ _ | with_reducible exact leP_int _ _ | with_reducible exact gtP_int _ _ | with_reducible exact geP_int _ _ | with_reducible exact intP_int _ | with_reducible exact absP_int _ | with_reducible exact modP_pos (by first | assumption | decide) | with_reducible exact mulP_r (by decide) | with_reducible exact mulP_l (by decide) | exact rfl) (s_seq (s_ifF (by repeat' first | with_reducible assumption | with_reducible exact r_c | with_reducible exact r_noPart | with_reducible exact r_nil | with_reducible exact s_skip | with_reducible apply r_var | with_reducible apply r_bag | with_reducible apply r_op | with_reducible apply r_cmp | with_reducible apply r_b | with_reducible apply r_isi | with_reducible apply r_isi2 | with_reducible apply r_neg | with_reducible apply r_g | with_reducible apply r_cons | with_reducible apply r_tup | with_reducible apply r_lst | with_reducible apply r_ca | with_reducible apply r_bagIx | with_reducible apply r_sl | with_reducible apply r_part | with_reducible apply r_not | with_reducible apply r_rev | with_reducible apply r_seqT | with_reducible apply s_set | with_reducible apply s_par | with_reducible apply s_ret | with_reducible apply s_bagSet | with_reducible apply s_bagAug | with_reducible exact addP_int _ _ | with_reducible exact subP_int _ _ | with_reducible exact eqP_int _ _ | with_reducible exact neP_int _ _ | with_reducible exact ltP_int _ _ | with_reducible exact leP_int _ _ | with_reducible exact gtP_int _ _ | with_reducible exact geP_int _ _ | with_reducible exact intP_int _ | with_reducible exact absP_int _ | with_reducible exact modP_pos (by first | assumption | decide) | with_reducible exact mulP_r (by decide) | with_reducible exact mulP_l (by decide) | exact rfl) s_skip) (s_seq (by repeat' first | with_reducible assumption | with_reducible exact r_c | with_reducible exact r_noPart | with_reducible exact r_nil | with_reducible exact s_skip | with_reducible apply r_var | with_reducible apply r_bag | with_reducible apply r_op | with_reducible apply r_cmp | with_reducible apply r_b | with_reducible apply r_isi | with_reducible apply r_isi2 | with_reducible apply r_neg | with_reducible apply r_g | with_reducible apply r_cons | with_reducible apply r_tup | with_reducible apply r_lst | with_reducible apply r_ca | with_reducible apply r_bagIx | with_reducible apply r_sl | with_reducible apply r_part | with_reducible apply r_not | with_reducible apply r_rev | with_reducible apply r_seqT | with_reducible apply s_set | with_reducible apply s_par | with_reducible apply s_ret | with_reducible apply s_bagSet | with_reducible apply s_bagAug | with_reducible exact addP_int _ _ | with_reducible exact subP_int _ _ | with_reducible exact eqP_int _ _ | with_reducible exact neP_int _ _ | with_reducible exact ltP_int _ _ | with_reducible exact leP_int _ _ | with_reducible exact gtP_int _ _ | with_reducible exact geP_int _ _ | with_reducible exact intP_int _ | with_reducible exact absP_int _ | with_reducible exact modP_pos (by first | assumption | decide) | with_reducible exact mulP_r (by decide) | with_reducible exact mulP_l (by decide) | exact rfl) (by repeat' first | with_reducible assumption | with_reducible exact nn _ | with_reducible exact r_c | with_reducible exact r_noPart | with_reducible exact r_nil | with_reducible exact s_skip | with_reducible apply r_var | with_reducible apply r_bag | with_reducible apply r_op | with_reducible apply r_cmp | with_reducible apply r_b | with_reducible apply r_isi | with_reducible apply r_isi2 | with_reducible apply r_neg | with_reducible apply r_g | with_reducible apply r_cons | with_reducible apply r_tup | with_reducible apply r_lst | with_reducible apply r_ca | with_reducible apply r_bagIx | with_reducible apply r_sl | with_reducible apply r_part | with_reducible apply r_not | with_reducible apply r_rev | with_reducible apply r_seqT | with_reducible apply s_set | with_reducible apply s_par | with_reducible apply s_ret | with_reducible apply s_bagSet | with_reducible apply s_bagAug | with_reducible exact addP_int _ _ | with_reducible exact subP_int _ _ | with_reducible exact eqP_int _ _ | with_reducible exact neP_int _ _ | with_reducible exact ltP_int _ _ | with_reducible exact leP_int _ _ | with_reducible exact gtP_int _ _ | with_reducible exact geP_int _ _ | with_reducible exact intP_int _ | with_reducible exact absP_int _ | with_reducible exact modP_pos (by first | assumption | decide) | with_reducible exact mulP_r (by decide) | with_reducible exact mulP_l (by decide) | exact rfl)))))
  · have hp : eqP (.int (s0 : Int)) (.int 0) = some false := by rw [eqP_int, decide_eq_false (by omega)]
    exact ⟨none, none, s0, s1, s2, s_ifF (by repeat' first | with_reducible assumption | with_reducible exact r_c | with_reducible exact r_noPart | with_reducible exact r_nil | with_reducible exact s_skip | with_reducible apply r_var | with_reducible apply r_bag | with_reducible apply r_op | with_reducible apply r_cmp | with_reducible apply r_b | with_reducible apply r_isi | with_reducible apply r_isi2 | with_reducible apply r_neg | with_reducible apply r_g | with_reducible apply r_cons | with_reducible apply r_tup | with_reducible apply r_lst | with_reducible apply r_ca | with_reducible apply r_bagIx | with_reducible apply r_sl | with_reducible apply r_part | with_reducible apply r_not | with_reducible apply r_rev | with_reducible apply r_seqT | with_reducible apply s_set | with_reducible apply s_par | with_reducible apply s_ret | with_reducible apply s_bagSet | with_reducible apply s_bagAug | with_reducible exact addP_int _ _ | with_reducible exact subP_int _ _ | with_reducible exact eqP_int _ _ | with_reducible exact neP_int _ _ | with_reducible exact ltP_int _ _ | with_reducible exact leP_int _ _ | with_reducible exact gtP_int _ _ | with_reducible exact geP_int _ _ | with_reducible exact intP_int _ | with_reducible exact absP_int _ | with_reducible exact modP_pos (by first | assumption | decide) | with_reducible exact mulP_r (by decide) | with_reducible exact mulP_l (by decide) | exact rfl) s_skip⟩
theorem take_ok (B : Bag) (n : Int) (h1 : 1 ≤ n) (h2 : n < 1073741824) (hc : B.cells.length ≤ 63) : ∃ r B', f__law_take [.bag, .d (.int n)] B = .ok (.int r) B' ∧ 0 ≤ r ∧ r < n ∧ B'.cells.length ≤ 63 := by
  obtain ⟨s0, s1, s2, cells⟩ := B
  have hc : cells.length ≤ 63 := hc
  obtain ⟨o2, o3, a0, a1, a2, e1⟩ := tkA_ok n s0 s1 s2 cells hc
  obtain ⟨r, B', e2, p1, p2, p3⟩ := tkB_ok n h1 h2 a0 a1 a2 cells o2 o3
  exact ⟨r, B', s_fn (show mSeq tkA tkB [some .bag, some (.d (.int n)), none, none, none, none, none] ⟨s0, s1, s2, cells⟩ = _ from s_seq e1 e2), p1, p2, by rw [p3]; exact hc⟩
end DL
set_option Elab.async false
set_option linter.all false
set_option maxRecDepth 100000
set_option maxHeartbeats 4000000
/-! P2: words, names, alike. -/
namespace DL
open PySem L2
theorem len_le {α : Type} {ds : List α} (h : ds.length ≤ 1000) : ds.length ≤ sizeLine := Nat.le_trans h (by decide)
theorem addP_list {xs ys : List PD} (h : xs.length + ys.length ≤ 1000) : addP (.list xs) (.list ys) = some (.list (xs ++ ys)) := by
  show (if _ then _ else _) = _
  rw [if_pos (Nat.le_trans h (by decide))]
theorem addP_tuple {xs ys : List PD} (h : xs.length + ys.length ≤ 1000) : addP (.tuple xs) (.tuple ys) = some (.tuple (xs ++ ys)) := by
  show (if _ then _ else _) = _
  rw [if_pos (Nat.le_trans h (by decide))]
theorem lenP_list (xs : List PD) : (unD [.d (.list xs)]).bind lenP = some (.int (xs.length : Int)) := rfl
theorem lenP_tuple (xs : List PD) : (unD [.d (.tuple xs)]).bind lenP = some (.int (xs.length : Int)) := rfl
theorem some_ok (ds : List PD) (h0 : 1 ≤ ds.length) (hl : ds.length ≤ 1000) (B : Bag) (hc : B.cells.length ≤ 63) : ∃ d B', f__law_some [.bag, .d (.list ds)] B = .ok d B' ∧ d ∈ ds ∧ B'.cells.length ≤ 63 := by
  obtain ⟨r, B', e, p1, p2, p3⟩ := take_ok B (ds.length : Int) (by omega) (by omega) hc
  have hk : r.toNat < ds.length := by omega
  have er : r = ((r.toNat : Nat) : Int) := by omega
  have ea : ixP (.list ds) (.int r) = some ds[r.toNat] := by
    have q := atI_nat' (List.getElem?_eq_getElem hk)
    rw [← er] at q
    exact q
  refine ⟨ds[r.toNat], B', ?_, List.getElem_mem hk, p3⟩
  unfold f__law_some b__law_some
  exact s_fn (s_ret (r_op (r_var rfl) (r_call (r_cons (r_bag rfl) (r_cons (r_g (r_ca (r_cons (r_g (r_var rfl)) r_nil) rfl)) r_nil)) rfl e) ea))
def wordsL : List PD := [.str "a", .str "zz", .str "band", .str "none", .str "pattern", .str "standing", .str "bands", .str "nones", .str "standin", .str "abcdefgh"] ++ [.str "abcdefghi", .str "", .str "A", .str "a1", .str "a ", .str "nos", .str "a-b", .none, .int 7, .bool true, .tuple [.str "a"], .list [.str "a"]]
theorem word_ok (B : Bag) (hc : B.cells.length ≤ 63) : ∃ d B', f__law_word [.bag] B = .ok d B' ∧ d ∈ wordsL ∧ B'.cells.length ≤ 63 := by
  obtain ⟨d, B', e, p1, p2⟩ := some_ok wordsL (by decide) (by decide) B hc
  refine ⟨d, B', ?_, p1, p2⟩
  unfold f__law_word b__law_word
  refine s_fn (s_seq (by repeat' first | with_reducible assumption | exact len_le (by simp) | with_reducible exact r_c | with_reducible exact r_noPart | with_reducible exact r_nil | with_reducible exact s_skip | with_reducible apply r_var | with_reducible apply r_bag | with_reducible apply r_op | with_reducible apply r_cmp | with_reducible apply r_b | with_reducible apply r_isi | with_reducible apply r_isi2 | with_reducible apply r_neg | with_reducible apply r_g | with_reducible apply r_cons | with_reducible apply r_tup | with_reducible apply r_lst | with_reducible apply r_ca | with_reducible apply r_bagIx | with_reducible apply r_sl | with_reducible apply r_part | with_reducible apply r_not | with_reducible apply r_rev | with_reducible apply r_seqT | with_reducible apply s_set | with_reducible apply s_par | with_reducible apply s_ret | with_reducible apply s_bagSet | with_reducible apply s_bagAug | with_reducible exact addP_int _ _ | with_reducible exact subP_int _ _ | with_reducible exact eqP_int _ _ | with_reducible exact neP_int _ _ | with_reducible exact ltP_int _ _ | with_reducible exact leP_int _ _ | with_reducible exact gtP_int _ _ | with_reducible exact geP_int _ _ | with_reducible exact intP_int _ | with_reducible exact absP_int _ | with_reducible exact modP_pos (by first | assumption | decide) | with_reducible exact mulP_r (by decide) | with_reducible exact mulP_l (by decide) | exact rfl) (s_ret (r_call (r_cons (r_bag rfl) (r_cons (r_g (r_op (r_var rfl) (by repeat' first | with_reducible assumption | exact len_le (by simp) | with_reducible exact r_c | with_reducible exact r_noPart | with_reducible exact r_nil | with_reducible exact s_skip | with_reducible apply r_var | with_reducible apply r_bag | with_reducible apply r_op | with_reducible apply r_cmp | with_reducible apply r_b | with_reducible apply r_isi | with_reducible apply r_isi2 | with_reducible apply r_neg | with_reducible apply r_g | with_reducible apply r_cons | with_reducible apply r_tup | with_reducible apply r_lst | with_reducible apply r_ca | with_reducible apply r_bagIx | with_reducible apply r_sl | with_reducible apply r_part | with_reducible apply r_not | with_reducible apply r_rev | with_reducible apply r_seqT | with_reducible apply s_set | with_reducible apply s_par | with_reducible apply s_ret | with_reducible apply s_bagSet | with_reducible apply s_bagAug | with_reducible exact addP_int _ _ | with_reducible exact subP_int _ _ | with_reducible exact eqP_int _ _ | with_reducible exact neP_int _ _ | with_reducible exact ltP_int _ _ | with_reducible exact leP_int _ _ | with_reducible exact gtP_int _ _ | with_reducible exact geP_int _ _ | with_reducible exact intP_int _ | with_reducible exact absP_int _ | with_reducible exact modP_pos (by first | assumption | decide) | with_reducible exact mulP_r (by decide) | with_reducible exact mulP_l (by decide) | exact rfl) (addP_list (by simp)))) r_nil)) rfl e)))
def isI (d : PD) : Bool := isIntB d && !isBoolB d
theorem isint_ok (d : PD) (B : Bag) : f_is_integer [.d d] B = .ok (.bool (isI d)) B := by
  unfold f_is_integer b_is_integer isI
  exact s_fn (s_ret (r_andV (by repeat' first | with_reducible assumption | with_reducible exact r_c | with_reducible exact r_noPart | with_reducible exact r_nil | with_reducible exact s_skip | with_reducible apply r_var | with_reducible apply r_bag | with_reducible apply r_op | with_reducible apply r_cmp | with_reducible apply r_b | with_reducible apply r_isi | with_reducible apply r_isi2 | with_reducible apply r_neg | with_reducible apply r_g | with_reducible apply r_cons | with_reducible apply r_tup | with_reducible apply r_lst | with_reducible apply r_ca | with_reducible apply r_bagIx | with_reducible apply r_sl | with_reducible apply r_part | with_reducible apply r_not | with_reducible apply r_rev | with_reducible apply r_seqT | with_reducible apply s_set | with_reducible apply s_par | with_reducible apply s_ret | with_reducible apply s_bagSet | with_reducible apply s_bagAug | with_reducible exact addP_int _ _ | with_reducible exact subP_int _ _ | with_reducible exact eqP_int _ _ | with_reducible exact neP_int _ _ | with_reducible exact ltP_int _ _ | with_reducible exact leP_int _ _ | with_reducible exact gtP_int _ _ | with_reducible exact geP_int _ _ | with_reducible exact intP_int _ | with_reducible exact absP_int _ | with_reducible exact modP_pos (by first | assumption | decide) | with_reducible exact mulP_r (by decide) | with_reducible exact mulP_l (by decide) | exact rfl) fun _ => r_notV (by repeat' first | with_reducible assumption | with_reducible exact r_c | with_reducible exact r_noPart | with_reducible exact r_nil | with_reducible exact s_skip | with_reducible apply r_var | with_reducible apply r_bag | with_reducible apply r_op | with_reducible apply r_cmp | with_reducible apply r_b | with_reducible apply r_isi | with_reducible apply r_isi2 | with_reducible apply r_neg | with_reducible apply r_g | with_reducible apply r_cons | with_reducible apply r_tup | with_reducible apply r_lst | with_reducible apply r_ca | with_reducible apply r_bagIx | with_reducible apply r_sl | with_reducible apply r_part | with_reducible apply r_not | with_reducible apply r_rev | with_reducible apply r_seqT | with_reducible apply s_set | with_reducible apply s_par | with_reducible apply s_ret | with_reducible apply s_bagSet | with_reducible apply s_bagAug | with_reducible exact addP_int _ _ | with_reducible exact subP_int _ _ | with_reducible exact eqP_int _ _ | with_reducible exact neP_int _ _ | with_reducible exact ltP_int _ _ | with_reducible exact leP_int _ _ | with_reducible exact gtP_int _ _ | with_reducible exact geP_int _ _ | with_reducible exact intP_int _ | with_reducible exact absP_int _ | with_reducible exact modP_pos (by first | assumption | decide) | with_reducible exact mulP_r (by decide) | with_reducible exact mulP_l (by decide) | exact rfl)))
theorem lawint_ok (d : PD) (B : Bag) : f__law_is_int [.d d] B = .ok (.bool (isI d)) B := by
  unfold f__law_is_int b__law_is_int isI
  exact s_fn (s_ret (r_andV (by repeat' first | with_reducible assumption | with_reducible exact r_c | with_reducible exact r_noPart | with_reducible exact r_nil | with_reducible exact s_skip | with_reducible apply r_var | with_reducible apply r_bag | with_reducible apply r_op | with_reducible apply r_cmp | with_reducible apply r_b | with_reducible apply r_isi | with_reducible apply r_isi2 | with_reducible apply r_neg | with_reducible apply r_g | with_reducible apply r_cons | with_reducible apply r_tup | with_reducible apply r_lst | with_reducible apply r_ca | with_reducible apply r_bagIx | with_reducible apply r_sl | with_reducible apply r_part | with_reducible apply r_not | with_reducible apply r_rev | with_reducible apply r_seqT | with_reducible apply s_set | with_reducible apply s_par | with_reducible apply s_ret | with_reducible apply s_bagSet | with_reducible apply s_bagAug | with_reducible exact addP_int _ _ | with_reducible exact subP_int _ _ | with_reducible exact eqP_int _ _ | with_reducible exact neP_int _ _ | with_reducible exact ltP_int _ _ | with_reducible exact leP_int _ _ | with_reducible exact gtP_int _ _ | with_reducible exact geP_int _ _ | with_reducible exact intP_int _ | with_reducible exact absP_int _ | with_reducible exact modP_pos (by first | assumption | decide) | with_reducible exact mulP_r (by decide) | with_reducible exact mulP_l (by decide) | exact rfl) fun _ => r_notV (by repeat' first | with_reducible assumption | with_reducible exact r_c | with_reducible exact r_noPart | with_reducible exact r_nil | with_reducible exact s_skip | with_reducible apply r_var | with_reducible apply r_bag | with_reducible apply r_op | with_reducible apply r_cmp | with_reducible apply r_b | with_reducible apply r_isi | with_reducible apply r_isi2 | with_reducible apply r_neg | with_reducible apply r_g | with_reducible apply r_cons | with_reducible apply r_tup | with_reducible apply r_lst | with_reducible apply r_ca | with_reducible apply r_bagIx | with_reducible apply r_sl | with_reducible apply r_part | with_reducible apply r_not | with_reducible apply r_rev | with_reducible apply r_seqT | with_reducible apply s_set | with_reducible apply s_par | with_reducible apply s_ret | with_reducible apply s_bagSet | with_reducible apply s_bagAug | with_reducible exact addP_int _ _ | with_reducible exact subP_int _ _ | with_reducible exact eqP_int _ _ | with_reducible exact neP_int _ _ | with_reducible exact ltP_int _ _ | with_reducible exact leP_int _ _ | with_reducible exact gtP_int _ _ | with_reducible exact geP_int _ _ | with_reducible exact intP_int _ | with_reducible exact absP_int _ | with_reducible exact modP_pos (by first | assumption | decide) | with_reducible exact mulP_r (by decide) | with_reducible exact mulP_l (by decide) | exact rfl)))
theorem isI_inv {d : PD} (h : isI d = true) : ∃ i, d = .int i := by
  cases d with
  | int i => exact ⟨i, rfl⟩
  | bool b => cases h
  | none => cases h
  | str x => cases h
  | list x => cases h
  | tuple x => cases h
  | dict x => cases h
/-- is_within -/
def inB (d : PD) (l m : Int) : Bool := match d with
  | .int i => decide (l ≤ i) && decide (i ≤ m)
  | _ => false
theorem within_ok (d : PD) (l m : Int) (B : Bag) : f_is_within [.d d, .d (.int l), .d (.int m)] B = .ok (.bool (inB d l m)) B := by
  unfold f_is_within b_is_within
  have e : inB d l m = (isI d && inB d l m) := by cases d <;> rfl
  rw [e]
  refine s_fn (s_ret (r_andV (r_call (r_cons (r_g (r_var rfl)) r_nil) rfl (isint_ok d B)) fun h => ?_))
  obtain ⟨i, rfl⟩ := isI_inv h
  exact r_b (r_ch (r_var rfl) (r_var rfl) (leP_int _ _) (r_var rfl) (leP_int _ _))
/-! alike -/
theorem alike1 (b : Bool) (B : Bag) : f__law_alike [.d (.bool b), .d (.bool b)] B = .ok (.bool true) B := by
  unfold f__law_alike b__law_alike
  refine s_fn (s_seq (B1 := B) (e1 := [some (.d (.bool b)), some (.d (.bool b)), some (.own [.tuple [.bool b, .bool b]]), some (.d (.int 0)), none, none]) (by cases b <;> exact rfl) ?_)
  refine s_seq (B1 := B) (e1 := [some (.d (.bool b)), some (.d (.bool b)), some (.own [.tuple [.bool b, .bool b]]), some (.d (.int 1)), some (.d (.bool b)), some (.d (.bool b))]) ?_ rfl
  refine Eq.trans (mWhile_turn (B1 := B) (B2 := B) (env2 := [some (.d (.bool b)), some (.d (.bool b)), some (.own [.tuple [.bool b, .bool b]]), some (.d (.int 1)), some (.d (.bool b)), some (.d (.bool b))]) rfl (by cases b <;> exact rfl) ?_) ?_
  · rw [mWhile_end (B1 := B) rfl]; intro z; cases z
  · exact mWhile_end rfl
theorem wh_end {c : EnvM → Bag → Res Bool} {body : EnvM → Bag → SRes} {env : EnvM} {B : Bag} (h : c env B = .ok false B) : mWhile c body env B = .nx env B := mWhile_end h
theorem wh_turn {c : EnvM → Bag → Res Bool} {body : EnvM → Bag → SRes} {env e1 e2 : EnvM} {B B1 B2 : Bag} (h : c env B = .ok true B) (hb : body env B = .nx e1 B1) (h2 : mWhile c body e1 B1 = .nx e2 B2) : mWhile c body env B = .nx e2 B2 :=
  (mWhile_turn h hb (by rw [h2]; intro z; cases z)).trans h2
/-- the slots at the turns of alike over two truths -/
def al2 (b c : Bool) (k : Int) (o4 o5 : Option SV) (own : List PD) : EnvM := [some (.d (.list [.bool b, .bool c])), some (.d (.list [.bool b, .bool c])), some (.own own), some (.d (.int k)), o4, o5]
theorem alike2 (b c : Bool) (B : Bag) : f__law_alike [.d (.list [.bool b, .bool c]), .d (.list [.bool b, .bool c])] B = .ok (.bool true) B := by
  unfold f__law_alike b__law_alike
  refine s_fn (s_seq (B1 := B) (e1 := al2 b c 0 none none [.tuple [.list [.bool b, .bool c], .list [.bool b, .bool c]]]) (by cases b <;> cases c <;> exact rfl) ?_)
  refine s_seq (B1 := B) (e1 := al2 b c 3 (some (.d (.bool c))) (some (.d (.bool c))) [.tuple [.list [.bool b, .bool c], .list [.bool b, .bool c]], .tuple [.bool b, .bool b], .tuple [.bool c, .bool c]]) ?_ rfl
  refine wh_turn (B1 := B) (e1 := al2 b c 1 (some (.d (.list [.bool b, .bool c]))) (some (.d (.list [.bool b, .bool c]))) [.tuple [.list [.bool b, .bool c], .list [.bool b, .bool c]], .tuple [.bool b, .bool b], .tuple [.bool c, .bool c]]) rfl (by cases b <;> cases c <;> exact rfl) ?_
  refine wh_turn (B1 := B) (e1 := al2 b c 2 (some (.d (.bool b))) (some (.d (.bool b))) [.tuple [.list [.bool b, .bool c], .list [.bool b, .bool c]], .tuple [.bool b, .bool b], .tuple [.bool c, .bool c]]) rfl (by cases b <;> cases c <;> exact rfl) ?_
  refine wh_turn (B1 := B) (e1 := al2 b c 3 (some (.d (.bool c))) (some (.d (.bool c))) [.tuple [.list [.bool b, .bool c], .list [.bool b, .bool c]], .tuple [.bool b, .bool b], .tuple [.bool c, .bool c]]) rfl (by cases b <;> cases c <;> exact rfl) ?_
  exact wh_end rfl
/-! names -/
def nameB : PD → Bool
  | .str x => x == "a" || x == "zz" || x == "bands" || x == "nones" || x == "standin" || x == "abcdefgh" || x == "nos"
  | _ => false
theorem nameB_str {d : PD} (h : nameB d = true) : ∃ x, d = .str x := by
  cases d with
  | str x => exact ⟨x, rfl⟩
  | int b => cases h
  | bool b => cases h
  | none => cases h
  | list x => cases h
  | tuple x => cases h
  | dict x => cases h
theorem names_ok (d : PD) (h : d ∈ wordsL) (B : Bag) : f_is_name [.d d] B = .ok (.bool (nameB d)) B ∧ f__law_is_name [.d d] B = .ok (.bool (nameB d)) B := by
  unfold wordsL at h
  simp only [List.mem_append, List.mem_cons, List.not_mem_nil, or_false] at h
  rcases h with (h | h | h | h | h | h | h | h | h | h) | (h | h | h | h | h | h | h | h | h | h | h | h) <;> subst h <;> exact ⟨by kernel_rfl, by kernel_rfl⟩
end DL
set_option Elab.async false
set_option linter.all false
set_option maxRecDepth 100000
set_option maxHeartbeats 4000000
/-! P3: are_names. -/
namespace DL
open PySem L2
section
variable {α : Type} [DecidableEq α]
/-- each new -/
def fresh : List α → List α → Bool
  | _, [] => true
  | l, k :: ks => decide (k ∉ l) && fresh (l ++ [k]) ks
theorem fold_len : ∀ (ks l : List α), (ks.foldl addK l).length = l.length + ks.length ↔ fresh l ks = true
  | [], l => by simp [fresh]
  | k :: ks, l => by
    rw [List.foldl_cons, fresh, List.length_cons]
    by_cases h : k ∈ l
    · have hk : addK l k = l := if_pos h
      rw [hk]
      have := foldK_len ks l
      have e : decide (k ∉ l) = false := decide_eq_false (fun z => z h)
      rw [e, Bool.false_and]
      exact ⟨fun z => by omega, fun z => by cases z⟩
    · have hk : addK l k = l ++ [k] := if_neg h
      have e : decide (k ∉ l) = true := decide_eq_true h
      rw [hk, e, Bool.true_and, ← fold_len ks (l ++ [k]), List.length_append]
      simp only [List.length_cons, List.length_nil]
      omega
theorem dedup_fresh (ks : List α) : (dedupK ks).length = ks.length ↔ fresh [] ks = true := by
  have := fold_len ks []
  rw [List.length_nil, Nat.zero_add] at this
  exact this
theorem fresh_range : ∀ (ks l : List α), fresh l ks = (List.range ks.length).all fun i => match ks[i]? with
    | some k => decide (k ∉ l ++ ks.take i)
    | none => true
  | [], l => by simp [fresh]
  | k :: ks, l => by
    rw [fresh, fresh_range ks (l ++ [k]), List.length_cons, List.range_succ_eq_map, List.all_cons, List.all_map]
    congr 1
    · simp
    · refine List.all_congr rfl fun i => ?_
      show _ = (match (k :: ks)[i + 1]? with | some z => decide (z ∉ l ++ (k :: ks).take (i + 1)) | none => true)
      rw [List.getElem?_cons_succ, List.take_succ_cons]
      cases ks[i]? with
      | none => rfl
      | some z => simp
end
theorem keys_strs : ∀ ss : List Str, keysP (ss.map PyData.str) = some (ss.map Sum.inr)
  | [] => rfl
  | x :: r => by
    rw [List.map_cons]
    unfold keysP
    rw [keys_strs r]
    rfl
theorem foldK_inr : ∀ (ns l : List Str), (ns.map Sum.inr : List Key).foldl addK (l.map Sum.inr) = (ns.foldl addK l).map Sum.inr
  | [], l => rfl
  | n :: r, l => by
    rw [List.map_cons, List.foldl_cons, List.foldl_cons]
    have e : addK (l.map Sum.inr : List Key) (Sum.inr n) = (addK l n).map Sum.inr := by
      unfold addK
      have : (Sum.inr n : Key) ∈ (l.map Sum.inr : List Key) ↔ n ∈ l := by simp
      by_cases h : n ∈ l
      · rw [if_pos h, if_pos (this.mpr h)]
      · rw [if_neg h, if_neg (fun z => h (this.mp z)), List.map_append]; rfl
    rw [e, foldK_inr r]
theorem r_dcLen {i : Nat} {mi : EnvM → Bag → Res (List PD)} {env : EnvM} {B B1 : Bag} {ds : List PD} {ks : List Key} (hi : mi env B = .ok ds B1) (hl : i < env.length) (hk : keysP ds = some ks) (h : ks.length ≤ sizeLine) : mDcLen i mi env B = .ok (.int ((dedupK ks).length : Int)) B1 := by
  unfold mDcLen mDc
  rw [if_pos hl, hi]
  simp only [Res.bind, hk, h, if_true]
theorem unBo_map' {α : Type} (p : α → Bool) : ∀ xs : List α, unBo (xs.map fun x => PyData.bool (p x)) = some (xs.map p)
  | [] => rfl
  | x :: r => by
    rw [List.map_cons, List.map_cons]
    unfold unBo
    rw [unBo_map' p r]
    rfl
theorem allP_map {α : Type} (p : α → Bool) (xs : List α) : (unD [.d (.list (xs.map fun x => PyData.bool (p x)))]).bind allP = some (.bool (xs.all p)) := by
  show onBools _ [.list _] = _
  unfold onBools
  show (unBo _).bind _ = _
  rw [unBo_map']
  show some (PyData.bool ((xs.map p).all id)) = _
  rw [List.all_map]
  rfl
theorem strs_of : ∀ {ws : List PD}, ws.all nameB = true → ∃ ss : List Str, ws = ss.map PyData.str
  | [], _ => ⟨[], rfl⟩
  | d :: r, h => by
    rw [List.all_cons, Bool.and_eq_true] at h
    obtain ⟨x, rfl⟩ := nameB_str h.1
    obtain ⟨ss, rfl⟩ := strs_of h.2
    exact ⟨x :: ss, rfl⟩
/-- the names' keys are each new -/
def freshW (ws : List PD) : Bool := match keysP ws with
  | some ks => fresh [] ks
  | none => false
def areB (ws : List PD) (l m : Int) : Bool := decide (l ≤ (ws.length : Int)) && decide ((ws.length : Int) ≤ m) && ws.all nameB && freshW ws
theorem all_true {α : Type} (xs : List α) : xs.filter (fun _ => true) = xs := List.filter_eq_self.mpr fun _ _ => rfl
theorem names_all (ws : List PD) (hw : ∀ d ∈ ws, d ∈ wordsL) (env : EnvM) (i : Nat) (hi : i < env.length) (B : Bag) : mLcGo (mgName i) mYes (mCall 1 f_is_name (mCons (mG (mVar i)) mNil)) env ws B = .ok (ws.map fun d => PyData.bool (nameB d)) B := by
  have q := lc_pure (g := mgName i) (c := mYes) (m := mCall 1 f_is_name (mCons (mG (mVar i)) mNil)) (env0 := env) (B := B) (fun _ => true) (fun d => .bool (nameB d)) (ds := ws) fun d hd =>
    ⟨_, rfl, rfl, fun _ => r_call (r_cons (r_g (r_var (List.getElem?_set_self hi))) r_nil) rfl (names_ok d (hw d hd) B).1⟩
  rw [all_true] at q
  exact q
theorem are_not (d : PD) (l m : Int) (h : isTupB d = false) (B : Bag) : f_are_names [.d d, .d (.int l), .d (.int m)] B = .ok (.bool false) B := by
  unfold f_are_names b_are_names
  refine s_fn (s_seqR (s_ifT (r_orT (?_ : mNot _ _ _ = .ok true B)) (s_ret r_c)))
  have e : (!(isTupB d)) = true := by rw [h]; rfl
  rw [← e]
  exact r_not (r_truB (r_isi (r_var rfl)))
theorem are_ok (ws : List PD) (l m : Int) (hw : ∀ d ∈ ws, d ∈ wordsL) (hl : ws.length ≤ 6) (B : Bag) : f_are_names [.d (.tuple ws), .d (.int l), .d (.int m)] B = .ok (.bool (areB ws l m)) B := by
  unfold f_are_names b_are_names
  have hz : ws.length ≤ sizeLine := Nat.le_trans hl (by decide)
  have hall := allP_map nameB ws
  have test := fun B : Bag => r_or (B1 := B) (env := env0 4 [.d (.tuple ws), .d (.int l), .d (.int m)]) (r_not (r_truB (r_isi (f := isTupB) (r_var (i := 0) (x := .tuple ws) rfl)))) fun _ =>
    r_or (B1 := B) (r_not (r_ch (c' := leP) (r_var (i := 1) (x := .int l) rfl) (r_ca (r_cons (r_g (r_var (i := 0) (x := .tuple ws) rfl)) r_nil) (lenP_tuple ws)) (leP_int _ _) (r_var (i := 2) (x := .int m) rfl) (leP_int _ _))) fun _ =>
      r_not (r_truB (r_ca (r_cons (r_g (r_lc (vs := [3]) (r_seqT (r_var (i := 0) (x := .tuple ws) rfl)) hz (names_all ws hw _ 3 (by show 3 < 4; decide) B))) r_nil) hall))
  cases q : (decide (l ≤ (ws.length : Int)) && decide ((ws.length : Int) ≤ m) && ws.all nameB) with
  | false =>
    have e : areB ws l m = false := by unfold areB; rw [q]; rfl
    rw [e]
    have k : (!(isTupB (.tuple ws)) || (!(decide (l ≤ (ws.length : Int)) && decide ((ws.length : Int) ≤ m)) || !ws.all nameB)) = true := by
      show (false || (!(_ && _) || !_)) = true
      rw [Bool.false_or, ← Bool.not_and, q]; rfl
    refine s_fn (s_seqR (s_ifT (B1 := B) ?_ (s_ret r_c)))
    have t := test B
    rw [k] at t
    exact t
  | true =>
    have k : (!(isTupB (.tuple ws)) || (!(decide (l ≤ (ws.length : Int)) && decide ((ws.length : Int) ≤ m)) || !ws.all nameB)) = false := by
      show (false || (!(_ && _) || !_)) = false
      rw [Bool.false_or, ← Bool.not_and, q]; rfl
    have t := test B
    rw [k] at t
    obtain ⟨ss, rfl⟩ := strs_of (Bool.and_eq_true_iff.mp q).2
    have ks := keys_strs ss
    have e : areB (ss.map PyData.str) l m = decide (((dedupK (ss.map Sum.inr : List Key)).length : Int) = ((ss.map PyData.str).length : Int)) := by
      unfold areB freshW
      rw [q, ks, Bool.true_and]
      show fresh [] (ss.map Sum.inr : List Key) = _
      rw [Bool.eq_iff_iff, decide_eq_true_iff, ← dedup_fresh]
      rw [List.length_map, List.length_map]
      omega
    rw [e]
    refine s_fn (s_seq (s_ifF t s_skip) (s_ret (r_b (r_cmp (r_dcLen (r_seqT (r_var rfl)) (by show 3 < 4; decide) ks (by rw [List.length_map]; rw [List.length_map] at hz; exact hz)) (r_ca (r_cons (r_g (r_var rfl)) r_nil) (lenP_tuple _)) (eqP_int _ _)))))
end DL
set_option Elab.async false
set_option linter.all false
set_option maxRecDepth 100000
set_option maxHeartbeats 4000000
/-! P4: fractions. -/
namespace DL
open PySem L2
theorem mod_nat {a b : Nat} (h : 0 < b) : modP (.int (a : Int)) (.int (b : Int)) = some (.int ((a % b : Nat) : Int)) := by
  rw [modP_pos (by omega)]
  rfl
theorem eq0_t {b : Nat} (h : b = 0) : eqP (.int (b : Int)) (.int 0) = some true := by rw [eqP_int, decide_eq_true (by omega)]
theorem eq0_f {b : Nat} (h : ¬ b = 0) : eqP (.int (b : Int)) (.int 0) = some false := by rw [eqP_int, decide_eq_false (by omega)]
theorem ne0_t {b : Nat} (h : ¬ b = 0) : neP (.int (b : Int)) (.int 0) = some true := by rw [neP_int, decide_eq_false (by omega)]; rfl
theorem ne0_f {b : Nat} (h : b = 0) : neP (.int (b : Int)) (.int 0) = some false := by rw [neP_int, decide_eq_true (by omega)]; rfl
theorem gcd_step {a b : Nat} (h : ¬ b = 0) : Nat.gcd b (a % b) = Nat.gcd a b := by
  rw [Nat.gcd_comm a b, Nat.gcd_rec b a, Nat.gcd_comm]
theorem div_wh : ∀ (n a b : Nat) (B : Bag), b ≤ n → mWhile (mCmp neP (mVar 1) (mC (.int 0))) (mPar 0 1 (mCons (mG (mVar 1)) (mCons (mG (mOp modP (mVar 0) (mVar 1))) mNil))) [some (.d (.int (a : Int))), some (.d (.int (b : Int)))] B = .nx [some (.d (.int ((Nat.gcd a b : Nat) : Int))), some (.d (.int ((0 : Nat) : Int)))] B
  | n, a, b, B, h => by
    by_cases hb : b = 0
    · subst hb
      have e := ne0_f (b := 0) rfl
      rw [wh_end (r_cmp (r_var rfl) r_c e), Nat.gcd_zero_right]
    · cases n with
      | zero => omega
      | succ n =>
        have e := ne0_t hb
        have em := mod_nat (a := a) (b := b) (by omega)
        have hlt : a % b < b := Nat.mod_lt _ (by omega)
        have ih := div_wh n b (a % b) B (by omega)
        rw [gcd_step hb] at ih
        exact wh_turn (r_cmp (r_var rfl) r_c e) (s_par (r_cons (r_g (r_var rfl)) (r_cons (r_g (r_op (r_var rfl) (r_var rfl) em)) r_nil))) ih
theorem div_ok (a b : Nat) (B : Bag) : f_divisor_of [.d (.int (a : Int)), .d (.int (b : Int))] B = .ok (.int ((Nat.gcd a b : Nat) : Int)) B := by
  unfold f_divisor_of b_divisor_of
  exact s_fn (s_seq (div_wh b a b B (Nat.le_refl _)) (s_ret (r_var rfl)))
abbrev ldBody : EnvM → Bag → SRes := (mSeq (mIf (mCmp eqP (mVar 1) (mC (.int 0))) (mRet (mVar 0)) mSkip)
  (mPar 0 1 (mCons (mG (mVar 1)) (mCons (mG (mOp modP (mCa intP (mCons (mG (mVar 0)) mNil)) (mVar 1))) mNil))))
theorem ld_ret (d : PD) (ds : List PD) (a : Nat) (o : Option SV) (B : Bag) : mLoop (mgName 2) ldBody (d :: ds) [some (.d (.int (a : Int))), some (.d (.int ((0 : Nat) : Int))), o] B = .ret (.int (a : Int)) B := by
  have e := eq0_t (b := 0) rfl
  have q : ldBody [some (.d (.int (a : Int))), some (.d (.int ((0 : Nat) : Int))), some (.d d)] B = .ret (.int (a : Int)) B := s_seqR (s_ifT (r_cmp (r_var rfl) r_c e) (s_ret (r_var rfl)))
  have g : mgName 2 d [some (.d (.int (a : Int))), some (.d (.int ((0 : Nat) : Int))), o] = some [some (.d (.int (a : Int))), some (.d (.int ((0 : Nat) : Int))), some (.d d)] := rfl
  unfold mLoop
  simp only [g, q]
theorem ld_turn (d : PD) (ds : List PD) (a b : Nat) (hb : ¬ b = 0) (o : Option SV) (B : Bag) : mLoop (mgName 2) ldBody (d :: ds) [some (.d (.int (a : Int))), some (.d (.int (b : Int))), o] B = mLoop (mgName 2) ldBody ds [some (.d (.int (b : Int))), some (.d (.int ((a % b : Nat) : Int))), some (.d d)] B := by
  have e := eq0_f hb
  have em := mod_nat (a := a) (b := b) (by omega)
  have q : ldBody [some (.d (.int (a : Int))), some (.d (.int (b : Int))), some (.d d)] B = .nx [some (.d (.int (b : Int))), some (.d (.int ((a % b : Nat) : Int))), some (.d d)] B :=
    s_seq (s_ifF (r_cmp (r_var rfl) r_c e) s_skip) (s_par (r_cons (r_g (r_var rfl)) (r_cons (r_g (r_op (r_ca (r_cons (r_g (r_var rfl)) r_nil) (intP_int _)) (r_var rfl) em)) r_nil)))
  have g : mgName 2 d [some (.d (.int (a : Int))), some (.d (.int (b : Int))), o] = some [some (.d (.int (a : Int))), some (.d (.int (b : Int))), some (.d d)] := rfl
  rw [mLoop]
  simp only [g, q]
theorem ld_loop : ∀ (k : Nat) (ds : List PD) (a b : Nat) (o : Option SV) (B : Bag), b < 2 ^ k → 2 * k + 1 ≤ ds.length → mLoop (mgName 2) ldBody ds [some (.d (.int (a : Int))), some (.d (.int (b : Int))), o] B = .ret (.int ((Nat.gcd a b : Nat) : Int)) B
  | k, [], a, b, o, B, h, hl => by simp at hl
  | k, d :: ds, a, b, o, B, h, hl => by
    by_cases hb : b = 0
    · subst hb
      rw [ld_ret, Nat.gcd_zero_right]
    · rw [ld_turn d ds a b hb]
      cases k with
      | zero => simp at h; omega
      | succ k =>
        cases ds with
        | nil => simp at hl
        | cons d2 ds =>
          by_cases hr : a % b = 0
          · rw [hr, ld_ret]
            have := gcd_step (a := a) hb
            rw [hr, Nat.gcd_zero_right] at this
            rw [← this]
          · rw [ld_turn d2 ds b (a % b) hr]
            have h1 : a % b < b := Nat.mod_lt _ (by omega)
            have h2 : b % (a % b) < a % b := Nat.mod_lt _ (by omega)
            have h3 : b % (a % b) ≤ b - a % b := by
              rw [Nat.mod_eq_sub_mod (Nat.le_of_lt h1)]
              exact Nat.mod_le _ _
            have h4 : (2 : Nat) ^ (k + 1) = 2 * 2 ^ k := by rw [Nat.pow_succ]; omega
            have ih := ld_loop k ds (a % b) (b % (a % b)) (some (.d d2)) B (by omega) (by simp at hl; omega)
            rw [gcd_step hr, gcd_step hb] at ih
            exact ih
theorem ldiv_ok (a b : Nat) (hb : b < 2 ^ 32) (B : Bag) : f__law_divisor [.d (.int (a : Int)), .d (.int (b : Int))] B = .ok (.int ((Nat.gcd a b : Nat) : Int)) B := by
  unfold f__law_divisor b__law_divisor
  refine s_fn (s_seqR ?_)
  unfold mFor
  rw [r_range1 (j := 3000) (B1 := B) (r_cons (r_g r_c) r_nil) (by decide)]
  show mLoop (mgName 2) ldBody (rangeP 0 3000) [some (.d (.int (a : Int))), some (.d (.int (b : Int))), none] B = _
  exact ld_loop 32 _ a b none B hb (by rw [rangeP_len]; decide)
theorem abs_nat (t : Int) : (unD [.d (.int t)]).bind absP = some (.int ((t.natAbs : Nat) : Int)) := by
  rw [absP_int]
  congr 2
  split <;> omega
/-! is_fraction -/
def fracB : PD → Bool
  | .tuple [.int a, .int b] => decide (1 ≤ b) && decide (Nat.gcd a.natAbs b.natAbs = 1)
  | _ => false
def fracOk : PD → Prop
  | .tuple [.int _, .int b] => b < 2 ^ 32
  | _ => True
theorem fr_not (d : PD) (h : isTupB d = false) (B : Bag) : f_is_fraction [.d d] B = .ok (.bool false) B ∧ f__law_is_fraction [.d d] B = .ok (.bool false) B := by
  have e : (!(isTupB d)) = true := by rw [h]; rfl
  constructor
  · unfold f_is_fraction b_is_fraction
    refine s_fn (s_seqR (s_ifT (r_orT (?_ : mNot _ _ _ = .ok true B)) (s_ret r_c)))
    rw [← e]
    exact r_not (r_truB (r_isi (r_var rfl)))
  · unfold f__law_is_fraction b__law_is_fraction
    refine s_fn (s_seqR (s_ifT (r_orT (?_ : mNot _ _ _ = .ok true B)) (s_ret r_c)))
    rw [← e]
    exact r_not (r_truB (r_isi (r_var rfl)))
theorem fr_len (ws : List PD) (h : ¬ ws.length = 2) (B : Bag) : f_is_fraction [.d (.tuple ws)] B = .ok (.bool false) B ∧ f__law_is_fraction [.d (.tuple ws)] B = .ok (.bool false) B := by
  have e : neP (.int (ws.length : Int)) (.int 2) = some true := by rw [neP_int, decide_eq_false (by omega)]; rfl
  constructor
  · unfold f_is_fraction b_is_fraction
    exact s_fn (s_seqR (s_ifT (r_orF (r_not (r_truB (r_isi (f := isTupB) (r_var (x := .tuple ws) rfl)))) (r_orT (r_cmp (r_ca (r_cons (r_g (r_var (x := .tuple ws) rfl)) r_nil) (lenP_tuple ws)) r_c e))) (s_ret r_c)))
  · unfold f__law_is_fraction b__law_is_fraction
    exact s_fn (s_seqR (s_ifT (r_orF (r_not (r_truB (r_isi (f := isTupB) (r_var (x := .tuple ws) rfl)))) (r_orT (r_cmp (r_ca (r_cons (r_g (r_var (x := .tuple ws) rfl)) r_nil) (lenP_tuple ws)) r_c e))) (s_ret r_c)))
theorem ints_all (ws : List PD) (env : EnvM) (i : Nat) (hi : i < env.length) (B : Bag) : mLcGo (mgName i) mYes (mCall 1 f_is_integer (mCons (mG (mVar i)) mNil)) env ws B = .ok (ws.map fun d => PyData.bool (isI d)) B := by
  have q := lc_pure (g := mgName i) (c := mYes) (m := mCall 1 f_is_integer (mCons (mG (mVar i)) mNil)) (env0 := env) (B := B) (fun _ => true) (fun d => .bool (isI d)) (ds := ws) fun d hd =>
    ⟨_, rfl, rfl, fun _ => r_call (r_cons (r_g (r_var (List.getElem?_set_self hi))) r_nil) rfl (isint_ok d B)⟩
  rw [all_true] at q
  exact q
theorem ix0 (x y : PD) : ixP (.tuple [x, y]) (.int 0) = some x := atI0 x [y]
theorem ix1 (x y : PD) : ixP (.tuple [x, y]) (.int 1) = some y := atI_nat' (xs := [x, y]) (j := 1) rfl
theorem ne22 : neP (.int (([PyData.none, .none] : List PD).length : Int)) (.int 2) = some false := by rw [neP_int]; rfl
theorem fr_two (x y : PD) (hb : fracOk (.tuple [x, y])) (B : Bag) : f_is_fraction [.d (.tuple [x, y])] B = .ok (.bool (fracB (.tuple [x, y]))) B ∧ f__law_is_fraction [.d (.tuple [x, y])] B = .ok (.bool (fracB (.tuple [x, y]))) B := by
  have e2 : neP (.int (([x, y] : List PD).length : Int)) (.int 2) = some false := ne22
  have hz : [x, y].length ≤ sizeLine := by show 2 ≤ sizeLine; decide
  have t1 := r_orF (env := env0 2 [.d (.tuple [x, y])]) (B1 := B) (r_not (r_truB (r_isi (f := isTupB) (r_var (i := 0) (x := .tuple [x, y]) rfl)))) (r_orF (B1 := B) (r_cmp (r_ca (r_cons (r_g (r_var (i := 0) (x := .tuple [x, y]) rfl)) r_nil) (lenP_tuple [x, y])) r_c e2)
    (r_not (r_truB (r_ca (r_cons (r_g (r_lc (vs := [1]) (r_seqT (r_var (i := 0) (x := .tuple [x, y]) rfl)) hz (ints_all [x, y] _ 1 (by show 1 < 2; decide) B))) r_nil) (allP_map isI [x, y])))))
  have t2 := r_orF (env := env0 1 [.d (.tuple [x, y])]) (B1 := B) (r_not (r_truB (r_isi (f := isTupB) (r_var (i := 0) (x := .tuple [x, y]) rfl)))) (r_orF (B1 := B) (r_cmp (r_ca (r_cons (r_g (r_var (i := 0) (x := .tuple [x, y]) rfl)) r_nil) (lenP_tuple [x, y])) r_c e2)
    (r_or (B1 := B) (r_not (r_truB (r_call (r_cons (r_g (r_op (r_var (i := 0) (x := .tuple [x, y]) rfl) r_c (ix0 x y))) r_nil) rfl (lawint_ok x B)))) fun _ => r_not (r_truB (r_call (r_cons (r_g (r_op (r_var (i := 0) (x := .tuple [x, y]) rfl) r_c (ix1 x y))) r_nil) rfl (lawint_ok y B)))))
  cases q : (isI x && isI y) with
  | false =>
    have k1 : (!([x, y].all isI)) = true := by
      show (!(isI x && (isI y && true))) = true
      rw [Bool.and_true, q]; rfl
    have k2 : (!(isI x) || !(isI y)) = true := by rw [← Bool.not_and, q]; rfl
    have e : fracB (.tuple [x, y]) = false := by
      cases x <;> first | rfl | (cases y <;> first | rfl | cases q)
    rw [k1] at t1
    rw [k2] at t2
    rw [e]
    constructor
    · unfold f_is_fraction b_is_fraction
      exact s_fn (s_seqR (s_ifT t1 (s_ret r_c)))
    · unfold f__law_is_fraction b__law_is_fraction
      exact s_fn (s_seqR (s_ifT t2 (s_ret r_c)))
  | true =>
    have k1 : (!([x, y].all isI)) = false := by
      show (!(isI x && (isI y && true))) = false
      rw [Bool.and_true, q]; rfl
    have k2 : (!(isI x) || !(isI y)) = false := by rw [← Bool.not_and, q]; rfl
    rw [k1] at t1
    rw [k2] at t2
    obtain ⟨a, rfl⟩ := isI_inv (Bool.and_eq_true_iff.mp q).1
    obtain ⟨b, rfl⟩ := isI_inv (Bool.and_eq_true_iff.mp q).2
    have hb : b < 2 ^ 32 := hb
    have eg : ∀ g : Nat, decide (((g : Nat) : Int) = 1) = decide (g = 1) := fun g => by
      refine decide_eq_decide.mpr ?_
      omega
    constructor
    · unfold f_is_fraction b_is_fraction
      refine s_fn (s_seq (s_ifF t1 s_skip) (s_ret ?_))
      refine r_andV (r_b (r_cmp (r_op (r_var (x := .tuple [.int a, .int b]) rfl) r_c (ix1 _ _)) r_c (geP_int _ _))) fun h => ?_
      have h1 : 1 ≤ b := of_decide_eq_true h
      have eb : b = ((b.natAbs : Nat) : Int) := by omega
      rw [← eg]
      refine r_b (r_cmp (r_call (r_cons (r_g (r_ca (r_cons (r_g (r_op (r_var (x := .tuple [.int a, .int b]) rfl) r_c (ix0 _ _))) r_nil) (abs_nat a))) (r_cons (r_g (r_op (r_var (x := .tuple [.int a, .int b]) rfl) r_c (ix1 _ _))) r_nil)) rfl (z := .int ((Nat.gcd a.natAbs b.natAbs : Nat) : Int)) (B2 := B) ?_) r_c (eqP_int _ _))
      have z := div_ok a.natAbs b.natAbs B
      rw [← eb] at z
      exact z
    · unfold f__law_is_fraction b__law_is_fraction
      refine s_fn (s_seq (s_ifF t2 s_skip) (s_ret ?_))
      refine r_andV (r_b (r_cmp (r_op (r_var (x := .tuple [.int a, .int b]) rfl) r_c (ix1 _ _)) r_c (geP_int _ _))) fun h => ?_
      have h1 : 1 ≤ b := of_decide_eq_true h
      have eb : b = ((b.natAbs : Nat) : Int) := by omega
      rw [← eg]
      refine r_b (r_cmp (r_call (r_cons (r_g (r_ca (r_cons (r_g (r_op (r_var (x := .tuple [.int a, .int b]) rfl) r_c (ix0 _ _))) r_nil) (abs_nat a))) (r_cons (r_g (r_op (r_var (x := .tuple [.int a, .int b]) rfl) r_c (ix1 _ _))) r_nil)) rfl (z := .int ((Nat.gcd a.natAbs b.natAbs : Nat) : Int)) (B2 := B) ?_) r_c (eqP_int _ _))
      have z := ldiv_ok a.natAbs b.natAbs (by omega) B
      rw [← eb] at z
      exact z
theorem frac_ok (d : PD) (hd : fracOk d) (B : Bag) : f_is_fraction [.d d] B = .ok (.bool (fracB d)) B ∧ f__law_is_fraction [.d d] B = .ok (.bool (fracB d)) B := by
  cases d with
  | tuple ws =>
    by_cases h : ws.length = 2
    · match ws, h with
      | [x, y], _ => exact fr_two x y hd B
    · have e : fracB (.tuple ws) = false := by
        match ws, h with
        | [], _ => rfl
        | [x], _ => cases x <;> rfl
        | [_, _], h => simp at h
        | x :: y :: _ :: _, _ => cases x <;> first | rfl | (cases y <;> rfl)
      rw [e]
      exact fr_len ws h B
  | none => exact fr_not _ rfl B
  | int b => exact fr_not _ rfl B
  | bool b => exact fr_not _ rfl B
  | str b => exact fr_not _ rfl B
  | list b => exact fr_not _ rfl B
  | dict b => exact fr_not _ rfl B
/-- the great one -/
theorem low_ok (t l : Nat) (h1 : 1 ≤ l) (h2 : l < 1073741824) (B : Bag) : ∃ a b : Int, f__law_lowest [.d (.int (t : Int)), .d (.int (l : Int))] B = .ok (.tuple [.int a, .int b]) B ∧ b < 2 ^ 32 := by
  have hg : Nat.gcd t l ≤ l := Nat.le_of_dvd (by omega) (Nat.gcd_dvd_right t l)
  have hg0 : 0 < Nat.gcd t l := Nat.gcd_pos_of_pos_right _ (by omega)
  have e1 := fdivP_pos (a := (t : Int)) (b := ((Nat.gcd t l : Nat) : Int)) (by omega) (by omega)
  have e2 := fdivP_pos (a := (l : Int)) (b := ((Nat.gcd t l : Nat) : Int)) (by omega) (by omega)
  have el : ltP (.int (l : Int)) (.int 0) = some false := by rw [ltP_int, decide_eq_false (by omega)]
  refine ⟨(t : Int) / ((Nat.gcd t l : Nat) : Int), (l : Int) / ((Nat.gcd t l : Nat) : Int), ?_, ?_⟩
  · unfold f__law_lowest b__law_lowest
    have a1 := abs_nat (t : Int)
    have a2 := abs_nat (l : Int)
    refine s_fn (s_seq (s_set (r_call (r_cons (r_g (r_ca (r_cons (r_g (r_var (x := .int (t : Int)) rfl)) r_nil) a1)) (r_cons (r_g (r_ca (r_cons (r_g (r_var (x := .int (l : Int)) rfl)) r_nil) a2)) r_nil)) rfl (ldiv_ok _ _ (by simp only [Int.natAbs_natCast]; omega) B)) rfl) ?_)
    simp only [Int.natAbs_natCast]
    refine s_seq (s_ifF (r_cmp (r_var (x := .int (l : Int)) rfl) r_c el) s_skip) (s_ret (r_tup (r_cons (r_g (r_op (r_ca (r_cons (r_g (r_var (x := .int (t : Int)) rfl)) r_nil) (intP_int _)) (r_var (x := .int ((Nat.gcd t l : Nat) : Int)) rfl) e1)) (r_cons (r_g (r_op (r_ca (r_cons (r_g (r_var (x := .int (l : Int)) rfl)) r_nil) (intP_int _)) (r_var (x := .int ((Nat.gcd t l : Nat) : Int)) rfl) e2)) r_nil)) rfl (by show 2 ≤ sizeLine; decide)))
  · have : (l : Int) / ((Nat.gcd t l : Nat) : Int) ≤ (l : Int) := Int.ediv_le_self _ (by omega)
    omega
end DL
set_option Elab.async false
set_option linter.all false
set_option maxRecDepth 100000
set_option maxHeartbeats 4000000
/-! P5: lots of indices. -/
namespace DL
open PySem L2
def flatK (d : PD) : Prop := d.canLay0 = true ∧ d.depth = 0
theorem flatK_int (i : Int) : flatK (.int i) := ⟨rfl, rfl⟩
theorem lay_all : ∀ {ws : List PD}, (∀ d ∈ ws, flatK d) → PyData.canLayAll0 ws = true ∧ PyData.depthAll ws = 0
  | [], _ => ⟨rfl, rfl⟩
  | d :: r, h => by
    obtain ⟨a, b⟩ := h d List.mem_cons_self
    obtain ⟨c, e⟩ := lay_all (ws := r) fun x hx => h x (List.mem_cons_of_mem _ hx)
    constructor
    · show (d.canLay0 && PyData.canLayAll0 r) = true
      rw [a, c]; rfl
    · show max d.depth (PyData.depthAll r) = 0
      rw [b, e]; rfl
theorem shaped_tup {ws : List PD} (h : ∀ d ∈ ws, flatK d) : SeqAt.shaped (.tuple ws) = true := by
  obtain ⟨a, b⟩ := lay_all h
  show (PyData.canLayAll0 ws && decide (PyData.depthAll ws + 1 ≤ 64)) = true
  rw [a, b]; rfl
theorem shaped_lst {ws : List PD} (h : ∀ d ∈ ws, flatK d) : SeqAt.shaped (.list ws) = true := by
  obtain ⟨a, b⟩ := lay_all h
  show (PyData.canLayAll0 ws && decide (PyData.depthAll ws + 1 ≤ 64)) = true
  rw [a, b]; rfl
theorem flat_ints (ns : List Int) : ∀ d ∈ ns.map PyData.int, flatK d := fun d hd => by
  obtain ⟨i, _, rfl⟩ := List.mem_map.mp hd
  exact flatK_int i
theorem eqv_nil (ws : List PD) : PyData.eqvAll ws [] = ws.isEmpty := by cases ws <;> rfl
theorem eqT_nil {ws : List PD} (h : ∀ d ∈ ws, flatK d) : eqP (.tuple ws) (.tuple []) = some ws.isEmpty := by
  unfold eqP
  rw [if_pos ⟨shaped_tup h, shaped_tup (fun d hd => by cases hd)⟩, ← eqv_nil]
  rfl
theorem neT_nil {ws : List PD} (h : ∀ d ∈ ws, flatK d) : neP (.tuple ws) (.tuple []) = some (!ws.isEmpty) := by
  unfold neP
  rw [if_pos ⟨shaped_tup h, shaped_tup (fun d hd => by cases hd)⟩, ← eqv_nil]
  rfl
theorem eqL_nil {ws : List PD} (h : ∀ d ∈ ws, flatK d) : eqP (.list ws) (.list []) = some ws.isEmpty := by
  unfold eqP
  rw [if_pos ⟨shaped_lst h, shaped_lst (fun d hd => by cases hd)⟩, ← eqv_nil]
  rfl
theorem eqv_ints : ∀ ns ms : List Int, PyData.eqvAll (ns.map PyData.int) (ms.map PyData.int) = decide (ns = ms)
  | [], [] => rfl
  | [], m :: ms => by rw [decide_eq_false (by simp)]; rfl
  | n :: ns, [] => by rw [decide_eq_false (by simp)]; rfl
  | n :: ns, m :: ms => by
    show (decide (n = m) && PyData.eqvAll (ns.map PyData.int) (ms.map PyData.int)) = _
    rw [eqv_ints ns ms, Bool.eq_iff_iff]
    simp
theorem eqL_ints (ns ms : List Int) : eqP (.list (ns.map PyData.int)) (.list (ms.map PyData.int)) = some (decide (ns = ms)) := by
  unfold eqP
  rw [if_pos ⟨shaped_lst (flat_ints ns), shaped_lst (flat_ints ms)⟩, ← eqv_ints]
  rfl
theorem keys_ints : ∀ ns : List Int, keysP (ns.map PyData.int) = some (ns.map Sum.inl)
  | [] => rfl
  | x :: r => by
    rw [List.map_cons]
    unfold keysP
    rw [keys_ints r]
    rfl
theorem intKeys_map : ∀ ns : List Int, intKeys (ns.map Sum.inl) = some ns
  | [] => rfl
  | x :: r => by
    rw [List.map_cons]
    unfold intKeys
    rw [intKeys_map r]
    rfl
theorem intsOf_map : ∀ ns : List Int, intsOf (ns.map PyData.int) = some ns
  | [] => rfl
  | x :: r => by
    rw [List.map_cons]
    unfold intsOf
    rw [intsOf_map r]
    rfl
theorem r_dcSrt {i : Nat} {mi : EnvM → Bag → Res (List PD)} {env : EnvM} {B B1 : Bag} {ns : List Int} (hi : mi env B = .ok (ns.map PyData.int) B1) (hl : i < env.length) (h : ns.length < 64) : mDcSrt i mi env B = .ok (.list ((riseI ns).map PyData.int)) B1 := by
  have hz : (ns.map Sum.inl : List Key).length ≤ sizeLine := by rw [List.length_map]; exact Nat.le_trans (Nat.le_of_lt h) (by decide)
  unfold mDcSrt mDc
  rw [if_pos hl, hi]
  simp only [Res.bind, keys_ints, hz, if_true, intKeys_map, h]
theorem r_srtT {m : EnvM → Bag → Res PD} {env : EnvM} {B B1 : Bag} {ns : List Int} (hi : m env B = .ok (.tuple (ns.map PyData.int)) B1) (h : ns.length < 64) : mSrtSet m env B = .ok (.list ((riseI ns).map PyData.int)) B1 := by
  unfold mSrtSet
  rw [hi]
  simp only [Res.bind, intsOf_map, h, if_true]
theorem r_srtL {m : EnvM → Bag → Res PD} {env : EnvM} {B B1 : Bag} {ns : List Int} (hi : m env B = .ok (.list (ns.map PyData.int)) B1) (h : ns.length < 64) : mSrtSet m env B = .ok (.list ((riseI ns).map PyData.int)) B1 := by
  unfold mSrtSet
  rw [hi]
  simp only [Res.bind, intsOf_map, h, if_true]
theorem ints_of_all : ∀ {ws : List PD}, ws.all isI = true → ∃ ns : List Int, ws = ns.map PyData.int
  | [], _ => ⟨[], rfl⟩
  | d :: r, h => by
    rw [List.all_cons, Bool.and_eq_true] at h
    obtain ⟨x, rfl⟩ := isI_inv h.1
    obtain ⟨ss, rfl⟩ := ints_of_all h.2
    exact ⟨x :: ss, rfl⟩
/-- the program's answer -/
def lotB (ws : List PD) (many : Int) : Bool := !ws.isEmpty && ws.all (fun d => inB d 0 (many - 1)) && (match intsOf ws with
  | some ns => decide (ns = riseI ns)
  | none => false)
theorem within_all (ws : List PD) (many : Int) (env : EnvM) (h1 : env[1]? = some (some (.d (.int many)))) (hi : 2 < env.length) (B : Bag) : mLcGo (mgName 2) mYes (mCall 3 f_is_within (mCons (mG (mVar 2)) (mCons (mG (mC (.int 0))) (mCons (mG (mOp subP (mVar 1) (mC (.int 1)))) mNil)))) env ws B = .ok (ws.map fun d => PyData.bool (inB d 0 (many - 1))) B := by
  have q := lc_pure (g := mgName 2) (c := mYes) (m := mCall 3 f_is_within (mCons (mG (mVar 2)) (mCons (mG (mC (.int 0))) (mCons (mG (mOp subP (mVar 1) (mC (.int 1)))) mNil)))) (env0 := env) (B := B) (fun _ => true) (fun d => .bool (inB d 0 (many - 1))) (ds := ws) fun d hd =>
    ⟨_, rfl, rfl, fun _ => r_call (r_cons (r_g (r_var (List.getElem?_set_self hi))) (r_cons (r_g r_c) (r_cons (r_g (r_op (r_var (by rw [List.getElem?_set_ne (by decide)]; exact h1)) r_c (subP_int _ _))) r_nil))) rfl (within_ok d 0 (many - 1) B)⟩
  rw [all_true] at q
  exact q
theorem inB_isI {d : PD} {l m : Int} (h : inB d l m = true) : isI d = true := by
  cases d <;> first | rfl | cases h
theorem lot_not (d : PD) (many : Int) (h : isTupB d = false) (B : Bag) : f_is_index_lot [.d d, .d (.int many)] B = .ok (.bool false) B := by
  unfold f_is_index_lot b_is_index_lot
  refine s_fn (s_seqR (s_ifT (r_orT (?_ : mNot _ _ _ = .ok true B)) (s_ret r_c)))
  have e : (!(isTupB d)) = true := by rw [h]; rfl
  rw [← e]
  exact r_not (r_truB (r_isi (r_var rfl)))
theorem lot_ok (ws : List PD) (many : Int) (hf : ∀ d ∈ ws, flatK d) (hl : ws.length < 64) (B : Bag) : f_is_index_lot [.d (.tuple ws), .d (.int many)] B = .ok (.bool (lotB ws many)) B := by
  unfold f_is_index_lot b_is_index_lot
  have hz : ws.length ≤ sizeLine := Nat.le_trans (Nat.le_of_lt hl) (by decide)
  have t := r_or (B1 := B) (env := env0 3 [.d (.tuple ws), .d (.int many)]) (r_not (r_truB (r_isi (f := isTupB) (r_var (i := 0) (x := .tuple ws) rfl)))) fun _ =>
    r_or (B1 := B) (r_cmp (r_var (i := 0) (x := .tuple ws) rfl) (r_tup (ds := []) r_nil rfl (by decide)) (eqT_nil hf)) fun _ =>
      r_not (r_truB (r_ca (r_cons (r_g (r_lc (vs := [2]) (r_seqT (r_var (i := 0) (x := .tuple ws) rfl)) hz (within_all ws many _ rfl (by show 2 < 3; decide) B))) r_nil) (allP_map (fun d => inB d 0 (many - 1)) ws)))
  cases q : (!ws.isEmpty && ws.all (fun d => inB d 0 (many - 1))) with
  | false =>
    have e : lotB ws many = false := by unfold lotB; rw [q]; rfl
    have k : (!(isTupB (.tuple ws)) || (ws.isEmpty || !ws.all (fun d => inB d 0 (many - 1)))) = true := by
      show (false || (ws.isEmpty || !_)) = true
      rw [Bool.false_or, ← Bool.not_not (b := ws.isEmpty), ← Bool.not_and, q]; rfl
    rw [k] at t
    rw [e]
    exact s_fn (s_seqR (s_ifT t (s_ret r_c)))
  | true =>
    have k : (!(isTupB (.tuple ws)) || (ws.isEmpty || !ws.all (fun d => inB d 0 (many - 1)))) = false := by
      show (false || (ws.isEmpty || !_)) = false
      rw [Bool.false_or, ← Bool.not_not (b := ws.isEmpty), ← Bool.not_and, q]; rfl
    rw [k] at t
    have hI : ws.all isI = true := List.all_eq_true.mpr fun d hd => inB_isI (List.all_eq_true.mp (Bool.and_eq_true_iff.mp q).2 d hd)
    obtain ⟨ns, rfl⟩ := ints_of_all hI
    have e : lotB (ns.map PyData.int) many = decide (ns = riseI ns) := by
      unfold lotB
      rw [q, intsOf_map]; rfl
    rw [e]
    rw [List.length_map] at hl
    exact s_fn (s_seq (s_ifF t s_skip) (s_ret (r_b (r_cmp (r_ca (r_cons (r_g (r_var (x := .tuple (ns.map PyData.int)) rfl)) r_nil) (z := .list (ns.map PyData.int)) rfl) (r_dcSrt (r_seqT (r_var (x := .tuple (ns.map PyData.int)) rfl)) (by show 2 < 3; decide) hl) (eqL_ints _ _)))))
def lastI : List Int → Int
  | [] => 0
  | [a] => a
  | _ :: b :: r => lastI (b :: r)
theorem lastI_mem : ∀ {ns : List Int}, ns ≠ [] → lastI ns ∈ ns
  | [], h => absurd rfl h
  | [a], _ => List.mem_cons_self
  | a :: b :: r, _ => List.mem_cons_of_mem _ (lastI_mem (ns := b :: r) (by simp))
theorem lastI_le : ∀ {ns : List Int} {x : Int}, ns.Pairwise (· < ·) → x ∈ ns → x ≤ lastI ns
  | [], _, _, h => by cases h
  | [a], x, _, h => by
    simp at h
    rw [h]; exact Int.le_refl _
  | a :: b :: r, x, hp, h => by
    obtain ⟨p1, p2⟩ := List.pairwise_cons.mp hp
    show x ≤ lastI (b :: r)
    rcases List.mem_cons.mp h with e | e
    · rw [e]
      have h1 := p1 b List.mem_cons_self
      have h2 := lastI_le p2 (x := b) List.mem_cons_self
      omega
    · exact lastI_le p2 e
theorem lastI_get : ∀ {ns : List Int}, ns ≠ [] → ns[ns.length - 1]? = some (lastI ns)
  | [], h => absurd rfl h
  | [a], _ => rfl
  | a :: b :: r, _ => by
    have := lastI_get (ns := b :: r) (by simp)
    show (a :: b :: r)[(b :: r).length + 1 - 1]? = _
    rw [Nat.add_sub_cancel]
    have e : (b :: r).length = ((b :: r).length - 1) + 1 := by simp
    rw [e, List.getElem?_cons_succ]
    exact this
theorem atI_last {ns : List Int} (h : ns ≠ []) : atI (ns.map PyData.int) (-1) = some (.int (lastI ns)) := by
  have hl : 0 < ns.length := List.length_pos_iff.mpr h
  unfold atI ixN
  rw [if_neg (by omega), List.length_map, if_pos (by omega)]
  show (ns.map PyData.int)[((-1 : Int) + (ns.length : Int)).toNat]? = _
  have e : ((-1 : Int) + (ns.length : Int)).toNat = ns.length - 1 := by omega
  rw [e, List.getElem?_map, lastI_get h]
  rfl
/-- the law's answer, when all are whole numbers -/
def lawLot (ns : List Int) (many : Int) : Bool := decide (ns = riseI ns) && (decide (0 ≤ ns.headD 0) && decide (lastI ns < many))
theorem lot_law (ns : List Int) (many : Int) (h0 : ns ≠ []) : lotB (ns.map PyData.int) many = lawLot ns many := by
  unfold lotB lawLot
  rw [intsOf_map]
  have e0 : (ns.map PyData.int).isEmpty = false := by cases ns with
    | nil => exact absurd rfl h0
    | cons a b => rfl
  rw [e0]
  show (true && _ && decide (ns = riseI ns)) = _
  rw [Bool.true_and, List.all_map, Bool.eq_iff_iff]
  simp only [Bool.and_eq_true, decide_eq_true_eq, List.all_eq_true]
  constructor
  · rintro ⟨h1, h2⟩
    refine ⟨h2, ?_, ?_⟩
    · cases ns with
      | nil => exact absurd rfl h0
      | cons a b =>
        have := h1 a List.mem_cons_self
        simp [inB] at this
        exact this.1
    · have := h1 _ (lastI_mem h0)
      simp [inB] at this
      omega
  · rintro ⟨h2, h3, h4⟩
    refine ⟨fun x hx => ?_, h2⟩
    have hp : ns.Pairwise (· < ·) := by rw [h2]; exact rise_lt ns
    have lo : ns.headD 0 ≤ x := by
      cases ns with
      | nil => cases hx
      | cons a b =>
        rcases List.mem_cons.mp hx with e | e
        · rw [e]; exact Int.le_refl _
        · exact Int.le_of_lt ((List.pairwise_cons.mp hp).1 x e)
    have hi : x ≤ lastI ns := lastI_le hp hx
    simp [inB]
    omega
end DL
set_option Elab.async false
set_option linter.all false
set_option maxRecDepth 100000
set_option maxHeartbeats 4000000
/-! P6: the law's first loop. -/
namespace DL
open PySem L2
def En (o2 o3 o4 o5 o6 o7 o8 o9 o10 o11 o12 o13 o14 o15 o16 o17 : Option SV) : EnvM := [none, some .bag, o2, o3, o4, o5, o6, o7, o8, o9, o10, o11, o12, o13, o14, o15, o16, o17]
def numsL : List PD := [.int 0, .int 1, .int (-1), .int 7, .bool true, .bool false, .none, .str "1", .int (10 ^ 40), .tuple [.int 1]]
def someL : List PD := [.int 0, .int 1, .int 2, .int 3, .int (-1), .bool true, .none, .str "1", .int (10 ^ 30)]
section
variable {o2 o3 o4 o5 o6 o7 o8 o9 o10 o11 o12 o13 o14 o15 o16 o17 : Option SV} {B : Bag}
theorem take_e (n : Int) (h1 : 1 ≤ n) (h2 : n < 1073741824) (env : EnvM) (he : env[1]? = some (some .bag)) (hc : B.cells.length ≤ 63) : ∃ r B', mCall 2 f__law_take (mCons (mBag 1) (mCons (mG (mC (.int n))) mNil)) env B = .ok (.int r) B' ∧ 0 ≤ r ∧ r < n ∧ B'.cells.length ≤ 63 := by
  obtain ⟨r, B', e, p⟩ := take_ok B n h1 h2 hc
  exact ⟨r, B', r_call (r_cons (r_bag he) (r_cons (r_g r_c) r_nil)) rfl e, p⟩
theorem word_e (env : EnvM) (he : env[1]? = some (some .bag)) (hc : B.cells.length ≤ 63) : ∃ d B', mCall 1 f__law_word (mCons (mBag 1) mNil) env B = .ok d B' ∧ d ∈ wordsL ∧ B'.cells.length ≤ 63 := by
  obtain ⟨d, B', e, p⟩ := word_ok B hc
  exact ⟨d, B', r_call (r_cons (r_bag he) r_nil) rfl e, p⟩
theorem st0 (hc : B.cells.length ≤ 63) : ∃ w nm B', ml_0 (En o2 o3 o4 o5 o6 o7 o8 o9 o10 o11 o12 o13 o14 o15 o16 o17) B = .nx (En o2 (some (.d w)) (some (.d nm)) o5 o6 o7 o8 o9 o10 o11 o12 o13 o14 o15 o16 o17) B' ∧ w ∈ wordsL ∧ B'.cells.length ≤ 63 := by
  obtain ⟨w, B1, e1, p1, c1⟩ := word_e (B := B) (En o2 o3 o4 o5 o6 o7 o8 o9 o10 o11 o12 o13 o14 o15 o16 o17) rfl hc
  obtain ⟨nm, B2, e2, p2, c2⟩ := some_ok numsL (by decide) (by decide) B1 c1
  have pw : powP (.int 10) (.int 40) = some (.int (10 ^ 40)) := rfl
  have el : mLst (mCons (mG (mC (.int 0))) (mCons (mG (mC (.int 1))) (mCons (mG (mNeg (mC (.int 1)))) (mCons (mG (mC (.int 7))) (mCons (mG (mC (.bool true))) (mCons (mG (mC (.bool false))) (mCons (mG (mC .none)) (mCons (mG (mC (.str "1"))) (mCons (mG (mOp powP (mC (.int 10)) (mC (.int 40)))) (mCons (mG (mTup (mCons (mG (mC (.int 1))) mNil))) mNil)))))))))) (En o2 o3 o4 o5 o6 o7 o8 o9 o10 o11 o12 o13 o14 o15 o16 o17) B1 = .ok (.list numsL) B1 := by
    unfold numsL
    repeat' first | with_reducible assumption | exact len_le (by simp) | with_reducible exact r_c | with_reducible exact r_noPart | with_reducible exact r_nil | with_reducible exact s_skip | with_reducible apply r_var | with_reducible apply r_bag | with_reducible apply r_op | with_reducible apply r_cmp | with_reducible apply r_b | with_reducible apply r_isi | with_reducible apply r_isi2 | with_reducible apply r_neg | with_reducible apply r_g | with_reducible apply r_cons | with_reducible apply r_tup | with_reducible apply r_lst | with_reducible apply r_ca | with_reducible apply r_bagIx | with_reducible apply r_sl | with_reducible apply r_part | with_reducible apply r_not | with_reducible apply r_rev | with_reducible apply r_seqT | with_reducible apply s_set | with_reducible apply s_par | with_reducible apply s_ret | with_reducible apply s_bagSet | with_reducible apply s_bagAug | with_reducible exact addP_int _ _ | with_reducible exact subP_int _ _ | with_reducible exact eqP_int _ _ | with_reducible exact neP_int _ _ | with_reducible exact ltP_int _ _ | with_reducible exact leP_int _ _ | with_reducible exact gtP_int _ _ | with_reducible exact geP_int _ _ | with_reducible exact intP_int _ | with_reducible exact absP_int _ | with_reducible exact modP_pos (by first | assumption | decide) | with_reducible exact mulP_r (by decide) | with_reducible exact mulP_l (by decide) | exact rfl
  exact ⟨w, nm, B2, s_par (r_cons (r_g e1) (r_cons (r_g (r_call (r_cons (r_bag rfl) (r_cons (r_g el) r_nil)) rfl e2)) r_nil)), p1, c2⟩
theorem st1 (hc : B.cells.length ≤ 63) : ∃ (l m : Int) (B' : Bag), ml_1 (En o2 o3 o4 o5 o6 o7 o8 o9 o10 o11 o12 o13 o14 o15 o16 o17) B = .nx (En o2 o3 o4 (some (.d (.int l))) (some (.d (.int m))) o7 o8 o9 o10 o11 o12 o13 o14 o15 o16 o17) B' ∧ B'.cells.length ≤ 63 := by
  obtain ⟨l, B1, e1, p1, p2, c1⟩ := take_e (B := B) 4 (by decide) (by decide) (En o2 o3 o4 o5 o6 o7 o8 o9 o10 o11 o12 o13 o14 o15 o16 o17) rfl hc
  obtain ⟨m, B2, e2, p3, p4, c2⟩ := take_e (B := B1) 9 (by decide) (by decide) (En o2 o3 o4 o5 o6 o7 o8 o9 o10 o11 o12 o13 o14 o15 o16 o17) rfl c1
  exact ⟨l - 1, m, B2, s_par (r_cons (r_g (r_op e1 r_c (subP_int _ _))) (r_cons (r_g e2) r_nil)), c2⟩
theorem st3 {w nm : PD} (hw : w ∈ wordsL) : ml_3 (En o2 (some (.d w)) (some (.d nm)) o5 o6 o7 o8 o9 o10 o11 o12 o13 o14 o15 o16 o17) B = .nx (En o2 (some (.d w)) (some (.d nm)) o5 o6 o7 o8 o9 o10 o11 o12 o13 o14 o15 o16 o17) B := by
  unfold ml_3
  obtain ⟨n1, n2⟩ := names_ok w hw B
  have hz : [PyData.bool (nameB w), PyData.bool (isI nm)].length ≤ sizeLine := by show 2 ≤ sizeLine; decide
  exact s_ifF (r_not (r_truB (r_call (r_cons (r_g (r_lst (r_cons (r_g (r_call (r_cons (r_g (r_var (x := w) rfl)) r_nil) rfl n1)) (r_cons (r_g (r_call (r_cons (r_g (r_var (x := nm) rfl)) r_nil) rfl (isint_ok nm B))) r_nil)) rfl hz))
    (r_cons (r_g (r_lst (r_cons (r_g (r_call (r_cons (r_g (r_var (x := w) rfl)) r_nil) rfl n2)) (r_cons (r_g (r_call (r_cons (r_g (r_var (x := nm) rfl)) r_nil) rfl (lawint_ok nm B))) r_nil)) rfl hz)) r_nil)) rfl (alike2 _ _ B)))) s_skip
theorem st5 {nm : PD} {l m : Int} : ml_5 (En o2 o3 (some (.d nm)) (some (.d (.int l))) (some (.d (.int m))) o7 o8 o9 o10 o11 o12 o13 o14 o15 o16 o17) B = .nx (En o2 o3 (some (.d nm)) (some (.d (.int l))) (some (.d (.int m))) o7 o8 o9 o10 o11 o12 o13 o14 o15 o16 o17) B := by
  unfold ml_5
  have e : (isI nm && inB nm l m) = inB nm l m := by cases nm <;> rfl
  have a2 : mAndV (mCall 1 f__law_is_int (mCons (mG (mVar 4)) mNil)) (mB (mChain leP leP (mVar 5) (mVar 4) (mVar 6))) (En o2 o3 (some (.d nm)) (some (.d (.int l))) (some (.d (.int m))) o7 o8 o9 o10 o11 o12 o13 o14 o15 o16 o17) B = .ok (.bool (inB nm l m)) B := by
    rw [← e]
    refine r_andV (r_call (r_cons (r_g (r_var (x := nm) rfl)) r_nil) rfl (lawint_ok nm B)) fun h => ?_
    obtain ⟨i, rfl⟩ := isI_inv h
    exact r_b (r_ch (r_var (x := .int l) rfl) (r_var (x := .int i) rfl) (leP_int _ _) (r_var (x := .int m) rfl) (leP_int _ _))
  exact s_ifF (r_not (r_truB (r_call (r_cons (r_g (r_call (r_cons (r_g (r_var (x := nm) rfl)) (r_cons (r_g (r_var (x := .int l) rfl)) (r_cons (r_g (r_var (x := .int m) rfl)) r_nil))) rfl (within_ok nm l m B))) (r_cons (r_g a2) r_nil)) rfl (alike1 _ B)))) s_skip
theorem st6 (hc : B.cells.length ≤ 63) : ∃ (ws : List PD) (B' : Bag), ml_6 (En o2 o3 o4 o5 o6 o7 o8 o9 o10 o11 o12 o13 o14 o15 o16 o17) B = .nx (En o2 o3 o4 o5 o6 (some (.d (.tuple ws))) o8 o9 o10 o11 o12 o13 o14 o15 o16 o17) B' ∧ (∀ d ∈ ws, d ∈ wordsL) ∧ ws.length ≤ 3 ∧ B'.cells.length ≤ 63 := by
  obtain ⟨r, B1, e1, p1, p2, c1⟩ := take_e (B := B) 4 (by decide) (by decide) (En o2 o3 o4 o5 o6 o7 o8 o9 o10 o11 o12 o13 o14 o15 o16 o17) rfl hc
  obtain ⟨ws, B2, e2, c2, l2, m2⟩ := lc_inv (g := mgName 16) (m := mCall 1 f__law_word (mCons (mBag 1) mNil)) (env0 := wipeE (En o2 o3 o4 o5 o6 o7 o8 o9 o10 o11 o12 o13 o14 o15 o16 o17) [16]) (fun B => B.cells.length ≤ 63) (fun d => d ∈ wordsL) (ds := rangeP 0 r.toNat) (B := B1)
    (fun d _ => ⟨_, rfl, fun B j => word_e _ rfl j⟩) c1
  rw [rangeP_len] at l2
  refine ⟨ws, B2, ?_, m2, by omega, c2⟩
  unfold ml_6
  exact s_set (r_ca (r_cons (r_g (r_lc (r_range1 (r_cons (r_g e1) r_nil) ⟨by omega, by omega⟩) (by rw [rangeP_len]; exact Nat.le_trans (show r.toNat ≤ 4 by omega) (by decide)) e2)) r_nil) rfl) rfl
end
/-! duplicates -/
theorem filt_isEmpty {α β : Type} (p : α → Bool) (f : α → β) (xs : List α) : ((xs.filter p).map f).isEmpty = xs.all fun x => !p x := by
  induction xs with
  | nil => rfl
  | cons a r ih =>
    rw [List.filter_cons, List.all_cons]
    cases p a with
    | true => simp
    | false => simpa using ih
theorem ones_flat (xs : List PD) : ∀ d ∈ xs.map (fun _ => PyData.int 1), flatK d := fun d hd => by
  obtain ⟨i, _, rfl⟩ := List.mem_map.mp hd
  exact flatK_int 1
theorem cut_take (ws : List PD) (j : Nat) (h : j ≤ ws.length) : cutP ws none (some (j : Int)) = ws.take j := by
  unfold cutP
  have e1 : HT.sIx ws.length 0 none = 0 := rfl
  have e2 : HT.sIx ws.length ws.length (some (j : Int)) = j := by rw [HT.sIx_nat]; omega
  rw [e1, e2, List.drop_zero, Nat.sub_zero]
def dupAt (ss : List Str) (j : Nat) : Bool := (ss.take j).any fun e => match ss[j]? with
  | some x => e == x
  | none => false
def dupD (ss : List Str) : PD → Bool
  | .int i => dupAt ss i.toNat
  | _ => false
theorem eqv_any (es : List Str) (x : Str) : ((es.map PyData.str).any fun e => PyData.eqv e (.str x)) = es.any fun e => e == x := by
  rw [List.any_map]; rfl
theorem flat_strs (es : List Str) : (es.map PyData.str).all flatP = true := by
  rw [List.all_map]
  exact List.all_eq_true.mpr fun _ _ => rfl
theorem dup_fresh (ss : List Str) : ((rangeP 0 ss.length).all fun d => !dupD ss d) = freshW (ss.map PyData.str) := by
  unfold freshW
  rw [keys_strs]
  show _ = fresh [] (ss.map Sum.inr : List Key)
  rw [fresh_range, List.length_map]
  unfold rangeP
  rw [List.all_map]
  refine List.all_congr rfl fun i => ?_
  show (!dupAt ss ((0 : Int) + (i : Int)).toNat) = _
  have e : ((0 : Int) + (i : Int)).toNat = i := by omega
  rw [e, List.getElem?_map, List.nil_append]
  unfold dupAt
  cases ss[i]? with
  | none => simp
  | some x =>
    rw [Bool.eq_iff_iff]
    simp
    rw [← List.map_take]
    constructor
    · intro h z
      obtain ⟨y, hy, e⟩ := List.mem_map.mp z
      cases e
      exact h _ hy rfl
    · intro h y hy e
      subst e
      exact h (List.mem_map.mpr ⟨_, hy, rfl⟩)
end DL
set_option Elab.async false
set_option linter.all false
set_option maxRecDepth 100000
set_option maxHeartbeats 4000000
/-! P7: the body of the loop over rows of names. -/
namespace DL
open PySem L2
def noNot (ws : List PD) : Bool := ws.all fun d => !(!(nameB d))
theorem noNot_eq (ws : List PD) : noNot ws = ws.all nameB := by
  unfold noNot
  congr 1
  funext d
  exact Bool.not_not _
def nmR (d : PD) : Bool := match d with
  | .tuple ws => ws.all nameB
  | _ => false
def dpR (d : PD) : Bool := match d with
  | .tuple ws => freshW ws
  | _ => false
def lenR (d : PD) : Int := match d with
  | .tuple ws => ws.length
  | _ => 0
/-- what the loop walks -/
def Row1 (d : PD) : Prop := isTupB d = false ∨ ∃ ws, d = .tuple ws ∧ (∀ x ∈ ws, x ∈ wordsL) ∧ ws.length ≤ 6
section
variable {o2 o3 o4 o7 o8 o9 o10 o11 o12 o13 o14 o15 o16 o17 : Option SV} {B : Bag} {l m : Int} {d : PD}
abbrev E1 (o2 o3 o4 : Option SV) (l m : Int) (o7 : Option SV) (d : PD) (o9 o10 o11 o12 o13 o14 o15 o16 o17 : Option SV) : EnvM := En o2 o3 o4 (some (.d (.int l))) (some (.d (.int m))) o7 (some (.d d)) o9 o10 o11 o12 o13 o14 o15 o16 o17
theorem b1_7 (h : Row1 d) : ml_7 (E1 o2 o3 o4 l m o7 d o9 o10 o11 o12 o13 o14 o15 o16 o17) B = .nx (E1 o2 o3 o4 l m o7 d (some (.d (.bool (isTupB d && nmR d)))) o10 o11 o12 o13 o14 o15 o16 o17) B := by
  unfold ml_7
  refine s_set (r_andV (r_isi (r_var (x := d) rfl)) fun ht => ?_) rfl
  rcases h with h | ⟨ws, rfl, hw, hl⟩
  · rw [h] at ht; cases ht
  · have hz : ws.length ≤ sizeLine := Nat.le_trans hl (by decide)
    have q := lc_pure (g := mgName 17) (c := mNot (mTru truP (mCall 1 f__law_is_name (mCons (mG (mVar 17)) mNil)))) (m := mC (.int 1)) (env0 := wipeE (E1 o2 o3 o4 l m o7 (.tuple ws) o9 o10 o11 o12 o13 o14 o15 o16 o17) [17]) (B := B) (fun d => !(nameB d)) (fun _ => .int 1) (ds := ws) fun x hx =>
      ⟨_, rfl, r_not (r_truB (r_call (r_cons (r_g (r_var (x := x) rfl)) r_nil) rfl (names_ok x (hw x hx) B).2)), fun _ => rfl⟩
    have e : nmR (.tuple ws) = ((ws.filter fun d => !(nameB d)).map fun _ => PyData.int 1).isEmpty := by
      rw [filt_isEmpty]
      exact (noNot_eq ws).symm
    rw [e]
    exact r_b (r_cmp (r_lc (r_seqT (r_var (x := .tuple ws) rfl)) hz q) (r_lst (ds := []) r_nil rfl (by decide)) (eqL_nil (ones_flat _)))
theorem b1_8 (h : Row1 d) : ml_8 (E1 o2 o3 o4 l m o7 d (some (.d (.bool (isTupB d && nmR d)))) o10 o11 o12 o13 o14 o15 o16 o17) B = .nx (E1 o2 o3 o4 l m o7 d (some (.d (.bool ((isTupB d && nmR d) && dpR d)))) o10 o11 o12 o13 o14 o15 o16 o17) B := by
  unfold ml_8
  refine s_set (r_andV (r_var (x := .bool (isTupB d && nmR d)) rfl) fun ht => ?_) rfl
  rcases h with h | ⟨ws, rfl, hw, hl⟩
  · rw [h] at ht; cases ht
  · have hn : ws.all nameB = true := (Bool.and_eq_true_iff.mp ht).2
    obtain ⟨ss, rfl⟩ := strs_of hn
    have hl2 : ss.length ≤ 6 := by rw [List.length_map] at hl; exact hl
    have lm : (ss.map PyData.str).length = ss.length := List.length_map _
    have q := lc_pure (g := mgName 16) (c := mCmp inP (mOp ixP (mVar 8) (mVar 16)) (mSl (mVar 8) mNoPart (mPart (mVar 16)))) (m := mC (.int 1)) (env0 := wipeE (E1 o2 o3 o4 l m o7 (.tuple (ss.map PyData.str)) (some (.d (.bool (isTupB (.tuple (ss.map PyData.str)) && nmR (.tuple (ss.map PyData.str)))))) o10 o11 o12 o13 o14 o15 o16 o17) [16]) (B := B) (dupD ss) (fun _ => .int 1) (ds := rangeP 0 ss.length) fun x hx => by
      obtain ⟨j, hj, rfl⟩ : ∃ j : Nat, j < ss.length ∧ x = .int ((0 : Int) + (j : Int)) := by
        unfold rangeP at hx
        obtain ⟨j, hj, e⟩ := List.mem_map.mp hx
        exact ⟨j, List.mem_range.mp hj, e.symm⟩
      have ej : ((0 : Int) + (j : Int)) = (j : Int) := by omega
      rw [ej]
      refine ⟨_, rfl, ?_, fun _ => rfl⟩
      have hg : (ss.map PyData.str)[j]? = some (.str ss[j]) := by rw [List.getElem?_map, List.getElem?_eq_getElem hj]; rfl
      have e1 : ixP (.tuple (ss.map PyData.str)) (.int (j : Int)) = some (.str ss[j]) := atI_nat' hg
      have e2 : sliceP (.tuple (ss.map PyData.str)) none (some (j : Int)) = some (.tuple ((ss.take j).map PyData.str)) := by
        show some (PyData.tuple (cutP (ss.map PyData.str) none (some (j : Int)))) = _
        rw [cut_take _ _ (by rw [lm]; omega), List.map_take]
      have e3 : inP (.str ss[j]) (.tuple ((ss.take j).map PyData.str)) = some (dupD ss (.int (j : Int))) := by
        show (if _ then _ else _) = _
        rw [if_pos ⟨rfl, flat_strs _⟩, eqv_any]
        show _ = some (dupAt ss (j : Int).toNat)
        unfold dupAt
        rw [Int.toNat_natCast, List.getElem?_eq_getElem hj]
      exact r_cmp (r_op (r_var (x := .tuple (ss.map PyData.str)) rfl) (r_var (x := .int (j : Int)) rfl) e1) (r_sl (r_var (x := .tuple (ss.map PyData.str)) rfl) r_noPart (r_part (r_var (x := .int (j : Int)) rfl)) e2) e3
    have e : dpR (.tuple (ss.map PyData.str)) = (((rangeP 0 ss.length).filter (dupD ss)).map fun _ => PyData.int 1).isEmpty := by
      rw [filt_isEmpty, dup_fresh]; rfl
    rw [e]
    have hr : mRange1 (mCons (mG (mCa lenP (mCons (mG (mVar 8)) mNil))) mNil) (E1 o2 o3 o4 l m o7 (.tuple (ss.map PyData.str)) (some (.d (.bool (isTupB (.tuple (ss.map PyData.str)) && nmR (.tuple (ss.map PyData.str)))))) o10 o11 o12 o13 o14 o15 o16 o17) B = .ok (rangeP 0 ss.length) B := by
      have := r_range1 (B1 := B) (env := E1 o2 o3 o4 l m o7 (.tuple (ss.map PyData.str)) (some (.d (.bool (isTupB (.tuple (ss.map PyData.str)) && nmR (.tuple (ss.map PyData.str)))))) o10 o11 o12 o13 o14 o15 o16 o17) (m := mCons (mG (mCa lenP (mCons (mG (mVar 8)) mNil))) mNil) (j := ((ss.map PyData.str).length : Int)) (r_cons (r_g (r_ca (r_cons (r_g (r_var (x := .tuple (ss.map PyData.str)) rfl)) r_nil) (lenP_tuple _))) r_nil) ⟨by omega, by omega⟩
      rw [lm, Int.toNat_natCast] at this
      exact this
    exact r_b (r_cmp (r_lc hr (by rw [rangeP_len]; exact Nat.le_trans hl2 (by decide)) q) (r_lst (ds := []) r_nil rfl (by decide)) (eqL_nil (ones_flat _)))
theorem b1_9 (h : Row1 d) {k : Bool} (hk : k = true → isTupB d = true) : ml_9 (E1 o2 o3 o4 l m o7 d (some (.d (.bool k))) o10 o11 o12 o13 o14 o15 o16 o17) B = .nx (E1 o2 o3 o4 l m o7 d (some (.d (.bool (k && (decide (l ≤ lenR d) && decide (lenR d ≤ m)))))) o10 o11 o12 o13 o14 o15 o16 o17) B := by
  unfold ml_9
  refine s_set (r_andV (r_var (x := .bool k) rfl) fun ht => ?_) rfl
  rcases h with h | ⟨ws, rfl, hw, hl⟩
  · rw [hk ht] at h; cases h
  · exact r_b (r_ch (r_var (x := .int l) rfl) (r_ca (r_cons (r_g (r_var (x := .tuple ws) rfl)) r_nil) (lenP_tuple ws)) (leP_int _ _) (r_var (x := .int m) rfl) (leP_int _ _))
def rightR (d : PD) (l m : Int) : Bool := ((isTupB d && nmR d) && dpR d) && (decide (l ≤ lenR d) && decide (lenR d ≤ m))
theorem are_R (h : Row1 d) (B : Bag) : f_are_names [.d d, .d (.int l), .d (.int m)] B = .ok (.bool (rightR d l m)) B := by
  rcases h with h | ⟨ws, rfl, hw, hl⟩
  · have e : rightR d l m = false := by unfold rightR; rw [h]; rfl
    rw [e]
    exact are_not d l m h B
  · have e : rightR (.tuple ws) l m = areB ws l m := by
      show (((true && ws.all nameB) && freshW ws) && (decide (l ≤ (ws.length : Int)) && decide ((ws.length : Int) ≤ m))) = _
      unfold areB
      cases ws.all nameB <;> cases freshW ws <;> cases decide (l ≤ (ws.length : Int)) <;> cases decide ((ws.length : Int) ≤ m) <;> rfl
    rw [e]
    exact are_ok ws l m hw hl B
theorem b1_11 (h : Row1 d) : ml_11 (E1 o2 o3 o4 l m o7 d (some (.d (.bool (rightR d l m)))) o10 o11 o12 o13 o14 o15 o16 o17) B = .nx (E1 o2 o3 o4 l m o7 d (some (.d (.bool (rightR d l m)))) o10 o11 o12 o13 o14 o15 o16 o17) B := by
  unfold ml_11
  exact s_ifF (r_not (r_truB (r_call (r_cons (r_g (r_call (r_cons (r_g (r_var (x := d) rfl)) (r_cons (r_g (r_var (x := .int l) rfl)) (r_cons (r_g (r_var (x := .int m) rfl)) r_nil))) rfl (are_R h B))) (r_cons (r_g (r_var (x := .bool (rightR d l m)) rfl)) r_nil)) rfl (alike1 _ B)))) s_skip
theorem body1 (h : Row1 d) : (mSeq ml_7 (mSeq ml_8 (mSeq ml_9 ml_11))) (E1 o2 o3 o4 l m o7 d o9 o10 o11 o12 o13 o14 o15 o16 o17) B = .nx (E1 o2 o3 o4 l m o7 d (some (.d (.bool (rightR d l m)))) o10 o11 o12 o13 o14 o15 o16 o17) B :=
  s_seq (b1_7 h) (s_seq (b1_8 h) (s_seq (b1_9 h fun hk => (Bool.and_eq_true_iff.mp (Bool.and_eq_true_iff.mp hk).1).1) (b1_11 h)))
end
section
variable {o2 o3 o4 o8 o9 o10 o11 o12 o13 o14 o15 o16 o17 : Option SV} {B : Bag} {l m : Int}
theorem st12 (ws : List PD) (hw : ∀ x ∈ ws, x ∈ wordsL) (hl : ws.length ≤ 3) (hc : B.cells.length ≤ 63) : ∃ a8 a9 B', ml_12 (En o2 o3 o4 (some (.d (.int l))) (some (.d (.int m))) (some (.d (.tuple ws))) o8 o9 o10 o11 o12 o13 o14 o15 o16 o17) B = .nx (En o2 o3 o4 (some (.d (.int l))) (some (.d (.int m))) (some (.d (.tuple ws))) a8 a9 o10 o11 o12 o13 o14 o15 o16 o17) B' ∧ B'.cells.length ≤ 63 := by
  have ha : addP (.tuple ws) (.tuple ws) = some (.tuple (ws ++ ws)) := addP_tuple (by omega)
  have hs : mSeqOfS (mTup (mCons (mG (mVar 7)) (mCons (mG (mCa listP (mCons (mG (mVar 7)) mNil))) (mCons (mG (mC .none)) (mCons (mG (mOp addP (mVar 7) (mVar 7))) (mCons (mG (mC (.str "ab"))) mNil)))))) (En o2 o3 o4 (some (.d (.int l))) (some (.d (.int m))) (some (.d (.tuple ws))) o8 o9 o10 o11 o12 o13 o14 o15 o16 o17) B = .ok [.tuple ws, .list ws, .none, .tuple (ws ++ ws), .str "ab"] B :=
    r_seqT (r_tup (r_cons (r_g (r_var (x := .tuple ws) rfl)) (r_cons (r_g (r_ca (r_cons (r_g (r_var (x := .tuple ws) rfl)) r_nil) (z := .list ws) rfl)) (r_cons (r_g r_c) (r_cons (r_g (r_op (r_var (x := .tuple ws) rfl) (r_var (x := .tuple ws) rfl) ha)) (r_cons (r_g r_c) r_nil))))) rfl (by show 5 ≤ sizeLine; decide))
  obtain ⟨e2, B2, h1, a8, a9, h2, h3⟩ := s_for (g := mgName 8) (body := mSeq ml_7 (mSeq ml_8 (mSeq ml_9 ml_11))) (fun env B => ∃ a8 a9, env = En o2 o3 o4 (some (.d (.int l))) (some (.d (.int m))) (some (.d (.tuple ws))) a8 a9 o10 o11 o12 o13 o14 o15 o16 o17 ∧ B.cells.length ≤ 63) hs ⟨o8, o9, rfl, hc⟩ (fun d hd env B ⟨a8, a9, e, c⟩ => by
    subst e
    have hr : Row1 d := by
      simp only [List.mem_cons, List.not_mem_nil, or_false] at hd
      rcases hd with h | h | h | h | h <;> subst h
      · exact .inr ⟨ws, rfl, hw, by omega⟩
      · exact .inl rfl
      · exact .inl rfl
      · exact .inr ⟨ws ++ ws, rfl, fun x hx => (List.mem_append.mp hx).elim (hw x) (hw x), by rw [List.length_append]; omega⟩
      · exact .inl rfl
    exact ⟨_, rfl, _, B, body1 (l := l) (m := m) (o7 := some (.d (.tuple ws))) hr, _, _, rfl, c⟩)
  subst h2
  exact ⟨a8, a9, B2, h1, h3⟩
end
end DL
set_option Elab.async false
set_option linter.all false
set_option maxRecDepth 100000
set_option maxHeartbeats 4000000
/-! P8: the loops over lots and fractions; the law. -/
namespace DL
open PySem L2
theorem someL_flat : ∀ d ∈ someL, flatK d := by
  intro d hd
  unfold someL at hd
  simp only [List.mem_cons, List.not_mem_nil, or_false] at hd
  rcases hd with h | h | h | h | h | h | h | h | h <;> subst h <;> first | exact ⟨rfl, rfl⟩ | exact ⟨by decide +kernel, rfl⟩
/-- what the second loop walks -/
def Row2 (d : PD) : Prop := isTupB d = false ∨ ∃ ws, d = .tuple ws ∧ (∀ x ∈ ws, flatK x) ∧ ws.length < 64
def eR (d : PD) : Bool := match d with
  | .tuple ws => !ws.isEmpty
  | _ => false
def iR (d : PD) : Bool := match d with
  | .tuple ws => ws.all isI
  | _ => false
def lR (d : PD) (many : Int) : Bool := match d with
  | .tuple ws => (match intsOf ws with
    | some ns => lawLot ns many
    | none => false)
  | _ => false
section
variable {o2 o3 o4 o5 o6 o7 o9 o10 o11 o12 o13 o14 o15 o16 o17 : Option SV} {B : Bag} {many : Int} {d : PD}
abbrev E2 (o2 o3 o4 o5 o6 o7 : Option SV) (d : PD) (o9 o10 o11 : Option SV) (many : Int) (o13 o14 o15 o16 o17 : Option SV) : EnvM := En o2 o3 o4 o5 o6 o7 (some (.d d)) o9 o10 o11 (some (.d (.int many))) o13 o14 o15 o16 o17
theorem b2_15 (hc : B.cells.length ≤ 63) : ∃ (many : Int) (B' : Bag), ml_15 (En o2 o3 o4 o5 o6 o7 (some (.d d)) o9 o10 o11 o12 o13 o14 o15 o16 o17) B = .nx (E2 o2 o3 o4 o5 o6 o7 d o9 o10 o11 many o13 o14 o15 o16 o17) B' ∧ B'.cells.length ≤ 63 := by
  obtain ⟨r, B1, e1, p1, p2, c1⟩ := take_e (B := B) 6 (by decide) (by decide) (En o2 o3 o4 o5 o6 o7 (some (.d d)) o9 o10 o11 o12 o13 o14 o15 o16 o17) rfl hc
  exact ⟨r, B1, s_set e1 rfl, c1⟩
theorem b2_16 (h : Row2 d) : ml_16 (E2 o2 o3 o4 o5 o6 o7 d o9 o10 o11 many o13 o14 o15 o16 o17) B = .nx (E2 o2 o3 o4 o5 o6 o7 d (some (.d (.bool (isTupB d && (eR d && iR d))))) o10 o11 many o13 o14 o15 o16 o17) B := by
  unfold ml_16
  refine s_set (r_andV (r_isi (r_var (x := d) rfl)) fun ht => ?_) rfl
  rcases h with h | ⟨ws, rfl, hf, hl⟩
  · rw [h] at ht; cases ht
  · have hz : ws.length ≤ sizeLine := Nat.le_trans (Nat.le_of_lt hl) (by decide)
    refine r_andV (r_b (r_cmp (r_var (x := .tuple ws) rfl) (r_tup (ds := []) r_nil rfl (by decide)) (neT_nil hf))) fun _ => ?_
    have q := lc_pure (g := mgName 17) (c := mNot (mTru truP (mCall 1 f__law_is_int (mCons (mG (mVar 17)) mNil)))) (m := mC (.int 1)) (env0 := wipeE (E2 o2 o3 o4 o5 o6 o7 (.tuple ws) o9 o10 o11 many o13 o14 o15 o16 o17) [17]) (B := B) (fun d => !(isI d)) (fun _ => .int 1) (ds := ws) fun x hx =>
      ⟨_, rfl, r_not (r_truB (r_call (r_cons (r_g (r_var (x := x) rfl)) r_nil) rfl (lawint_ok x B))), fun _ => rfl⟩
    have e : iR (.tuple ws) = ((ws.filter fun d => !(isI d)).map fun _ => PyData.int 1).isEmpty := by
      rw [filt_isEmpty]
      show ws.all isI = _
      congr 1
      funext d
      exact (Bool.not_not _).symm
    rw [e]
    exact r_b (r_cmp (r_lc (r_seqT (r_var (x := .tuple ws) rfl)) hz q) (r_lst (ds := []) r_nil rfl (by decide)) (eqL_nil (ones_flat _)))
theorem b2_17 (h : Row2 d) : ml_17 (E2 o2 o3 o4 o5 o6 o7 d (some (.d (.bool (isTupB d && (eR d && iR d))))) o10 o11 many o13 o14 o15 o16 o17) B = .nx (E2 o2 o3 o4 o5 o6 o7 d (some (.d (.bool ((isTupB d && (eR d && iR d)) && lR d many)))) o10 o11 many o13 o14 o15 o16 o17) B := by
  unfold ml_17
  refine s_set (r_andV (r_var (x := .bool (isTupB d && (eR d && iR d))) rfl) fun ht => ?_) rfl
  rcases h with h | ⟨ws, rfl, hf, hl⟩
  · rw [h] at ht; cases ht
  · obtain ⟨ns, rfl⟩ := ints_of_all (show ws.all isI = true from (Bool.and_eq_true_iff.mp (Bool.and_eq_true_iff.mp ht).2).2)
    have h0 : ns ≠ [] := fun z => by
      subst z
      have := (Bool.and_eq_true_iff.mp (Bool.and_eq_true_iff.mp ht).2).1
      cases this
    have hl2 : ns.length < 64 := by rw [List.length_map] at hl; exact hl
    have e : lR (.tuple (ns.map PyData.int)) many = lawLot ns many := by
      show (match intsOf (ns.map PyData.int) with | some ns => lawLot ns many | none => false) = _
      rw [intsOf_map]
    rw [e]
    unfold lawLot
    have eh : ixP (.tuple (ns.map PyData.int)) (.int 0) = some (.int (ns.headD 0)) := by
      cases ns with
      | nil => exact absurd rfl h0
      | cons a b => exact atI0 _ _
    have el : ixP (.tuple (ns.map PyData.int)) (.int (-1)) = some (.int (lastI ns)) := atI_last h0
    refine r_andV (r_b (r_cmp (r_ca (r_cons (r_g (r_var (x := .tuple (ns.map PyData.int)) rfl)) r_nil) (z := .list (ns.map PyData.int)) rfl) (r_srtT (r_var (x := .tuple (ns.map PyData.int)) rfl) hl2) (eqL_ints _ _))) fun _ => ?_
    refine r_andV (r_b (r_cmp r_c (r_op (r_var (x := .tuple (ns.map PyData.int)) rfl) r_c eh) (leP_int _ _))) fun _ => ?_
    exact r_b (r_cmp (r_op (r_var (x := .tuple (ns.map PyData.int)) rfl) (r_neg r_c) el) (r_var (x := .int many) rfl) (ltP_int _ _))
def right2 (d : PD) (many : Int) : Bool := (isTupB d && (eR d && iR d)) && lR d many
theorem lot_R (h : Row2 d) (B : Bag) : f_is_index_lot [.d d, .d (.int many)] B = .ok (.bool (right2 d many)) B := by
  rcases h with h | ⟨ws, rfl, hf, hl⟩
  · have e : right2 d many = false := by unfold right2; rw [h]; rfl
    rw [e]
    exact lot_not d many h B
  · have e : right2 (.tuple ws) many = lotB ws many := by
      unfold right2
      show ((true && ((!ws.isEmpty) && ws.all isI)) && (match intsOf ws with | some ns => lawLot ns many | none => false)) = _
      cases hI : ws.all isI with
      | false =>
        have hx : (ws.all fun d => inB d 0 (many - 1)) = false := by
          cases q : ws.all fun d => inB d 0 (many - 1) with
          | false => rfl
          | true =>
            have : ws.all isI = true := List.all_eq_true.mpr fun d hd => inB_isI (List.all_eq_true.mp q d hd)
            rw [hI] at this; cases this
        unfold lotB
        rw [hx]
        cases ws.isEmpty <;> rfl
      | true =>
        obtain ⟨ns, rfl⟩ := ints_of_all hI
        rw [intsOf_map]
        cases ns with
        | nil => rfl
        | cons a b =>
          rw [lot_law (a :: b) many (by simp)]
          show ((true && (true && true)) && lawLot (a :: b) many) = _
          rfl
    rw [e]
    exact lot_ok ws many hf hl B
theorem b2_19 (h : Row2 d) : ml_19 (E2 o2 o3 o4 o5 o6 o7 d (some (.d (.bool (right2 d many)))) o10 o11 many o13 o14 o15 o16 o17) B = .nx (E2 o2 o3 o4 o5 o6 o7 d (some (.d (.bool (right2 d many)))) o10 o11 many o13 o14 o15 o16 o17) B := by
  unfold ml_19
  exact s_ifF (r_not (r_truB (r_call (r_cons (r_g (r_call (r_cons (r_g (r_var (x := d) rfl)) (r_cons (r_g (r_var (x := .int many) rfl)) r_nil)) rfl (lot_R h B))) (r_cons (r_g (r_var (x := .bool (right2 d many)) rfl)) r_nil)) rfl (alike1 _ B)))) s_skip
theorem body2 (h : Row2 d) (hc : B.cells.length ≤ 63) : ∃ a9 a12 B', (mSeq ml_15 (mSeq ml_16 (mSeq ml_17 ml_19))) (En o2 o3 o4 o5 o6 o7 (some (.d d)) o9 o10 o11 o12 o13 o14 o15 o16 o17) B = .nx (En o2 o3 o4 o5 o6 o7 (some (.d d)) a9 o10 o11 a12 o13 o14 o15 o16 o17) B' ∧ B'.cells.length ≤ 63 := by
  obtain ⟨many, B1, e1, c1⟩ := b2_15 (d := d) (o2 := o2) (o3 := o3) (o4 := o4) (o5 := o5) (o6 := o6) (o7 := o7) (o9 := o9) (o10 := o10) (o11 := o11) (o12 := o12) (o13 := o13) (o14 := o14) (o15 := o15) (o16 := o16) (o17 := o17) hc
  exact ⟨_, _, B1, s_seq e1 (s_seq (b2_16 h) (s_seq (b2_17 h) (b2_19 h))), c1⟩
end
theorem ints_of : ∀ {ys : List PD}, (∀ y ∈ ys, ∃ i : Int, y = .int i) → ∃ ns : List Int, ys = ns.map PyData.int
  | [], _ => ⟨[], rfl⟩
  | d :: r, h => by
    obtain ⟨i, rfl⟩ := h d List.mem_cons_self
    obtain ⟨ns, rfl⟩ := ints_of (ys := r) fun y hy => h y (List.mem_cons_of_mem _ hy)
    exact ⟨i :: ns, rfl⟩
theorem erase_len : ∀ (n : Nat) (ns : List Int), ns.length ≤ n → ns.eraseDups.length ≤ ns.length
  | _, [], _ => by simp
  | 0, x :: r, h => by simp at h
  | n + 1, x :: r, h => by
    rw [List.eraseDups_cons, List.length_cons, List.length_cons]
    have h1 := List.length_filter_le (fun b => !b == x) r
    have h2 := erase_len n (r.filter fun b => !b == x) (by simp at h; omega)
    omega
theorem rise_len (ns : List Int) : (riseI ns).length ≤ ns.length := by
  unfold riseI sortI
  rw [List.length_mergeSort]
  exact erase_len _ ns (Nat.le_refl _)
section
variable {o2 o3 o4 o5 o6 o7 o8 o9 o10 o11 o12 o13 o14 o15 o16 o17 : Option SV} {B : Bag}
theorem st13 (hc : B.cells.length ≤ 63) : ∃ (ns : List Int) (B' : Bag), ml_13 (En o2 o3 o4 o5 o6 o7 o8 o9 o10 o11 o12 o13 o14 o15 o16 o17) B = .nx (En o2 o3 o4 o5 o6 o7 o8 o9 (some (.d (.tuple (ns.map PyData.int)))) o11 o12 o13 o14 o15 o16 o17) B' ∧ ns.length ≤ 5 ∧ B'.cells.length ≤ 63 := by
  obtain ⟨r, B1, e1, p1, p2, c1⟩ := take_e (B := B) 5 (by decide) (by decide) (En o2 o3 o4 o5 o6 o7 o8 o9 o10 o11 o12 o13 o14 o15 o16 o17) rfl hc
  obtain ⟨ys, B2, e2, c2, l2, m2⟩ := lc_inv (g := mgName 16) (m := mCall 2 f__law_take (mCons (mBag 1) (mCons (mG (mC (.int 5))) mNil))) (env0 := wipeE (En o2 o3 o4 o5 o6 o7 o8 o9 o10 o11 o12 o13 o14 o15 o16 o17) [16]) (fun B => B.cells.length ≤ 63) (fun d => ∃ i : Int, d = .int i) (ds := rangeP 0 r.toNat) (B := B1)
    (fun d _ => ⟨_, rfl, fun B j => by
      obtain ⟨i, B', e, _, _, c⟩ := take_e (B := B) 5 (by decide) (by decide) ((wipeE (En o2 o3 o4 o5 o6 o7 o8 o9 o10 o11 o12 o13 o14 o15 o16 o17) [16]).set 16 (some (.d d))) rfl j
      exact ⟨_, B', e, ⟨i, rfl⟩, c⟩⟩) c1
  rw [rangeP_len] at l2
  obtain ⟨ns, rfl⟩ := ints_of m2
  rw [List.length_map] at l2
  refine ⟨riseI ns, B2, ?_, by have := rise_len ns; omega, c2⟩
  unfold ml_13
  exact s_set (r_ca (r_cons (r_g (r_srtL (r_lc (r_range1 (r_cons (r_g e1) r_nil) ⟨by omega, by omega⟩) (by rw [rangeP_len]; exact Nat.le_trans (show r.toNat ≤ 5 by omega) (by decide)) e2) (by omega))) r_nil) rfl) rfl
theorem st14 (hc : B.cells.length ≤ 63) : ∃ (ws : List PD) (B' : Bag), ml_14 (En o2 o3 o4 o5 o6 o7 o8 o9 o10 o11 o12 o13 o14 o15 o16 o17) B = .nx (En o2 o3 o4 o5 o6 o7 o8 o9 o10 (some (.d (.tuple ws))) o12 o13 o14 o15 o16 o17) B' ∧ (∀ d ∈ ws, flatK d) ∧ ws.length ≤ 4 ∧ B'.cells.length ≤ 63 := by
  obtain ⟨r, B1, e1, p1, p2, c1⟩ := take_e (B := B) 4 (by decide) (by decide) (En o2 o3 o4 o5 o6 o7 o8 o9 o10 o11 o12 o13 o14 o15 o16 o17) rfl hc
  have pw : powP (.int 10) (.int 30) = some (.int (10 ^ 30)) := rfl
  have el : ∀ (env : EnvM) (B : Bag), mLst (mCons (mG (mC (.int 0))) (mCons (mG (mC (.int 1))) (mCons (mG (mC (.int 2))) (mCons (mG (mC (.int 3))) (mCons (mG (mNeg (mC (.int 1)))) (mCons (mG (mC (.bool true))) (mCons (mG (mC .none)) (mCons (mG (mC (.str "1"))) (mCons (mG (mOp powP (mC (.int 10)) (mC (.int 30)))) mNil))))))))) env B = .ok (.list someL) B := fun env B => by
    unfold someL
    repeat' first | with_reducible assumption | exact len_le (by simp) | with_reducible exact r_c | with_reducible exact r_noPart | with_reducible exact r_nil | with_reducible exact s_skip | with_reducible apply r_var | with_reducible apply r_bag | with_reducible apply r_op | with_reducible apply r_cmp | with_reducible apply r_b | with_reducible apply r_isi | with_reducible apply r_isi2 | with_reducible apply r_neg | with_reducible apply r_g | with_reducible apply r_cons | with_reducible apply r_tup | with_reducible apply r_lst | with_reducible apply r_ca | with_reducible apply r_bagIx | with_reducible apply r_sl | with_reducible apply r_part | with_reducible apply r_not | with_reducible apply r_rev | with_reducible apply r_seqT | with_reducible apply s_set | with_reducible apply s_par | with_reducible apply s_ret | with_reducible apply s_bagSet | with_reducible apply s_bagAug | with_reducible exact addP_int _ _ | with_reducible exact subP_int _ _ | with_reducible exact eqP_int _ _ | with_reducible exact neP_int _ _ | with_reducible exact ltP_int _ _ | with_reducible exact leP_int _ _ | with_reducible exact gtP_int _ _ | with_reducible exact geP_int _ _ | with_reducible exact intP_int _ | with_reducible exact absP_int _ | with_reducible exact modP_pos (by first | assumption | decide) | with_reducible exact mulP_r (by decide) | with_reducible exact mulP_l (by decide) | exact rfl
  obtain ⟨ws, B2, e2, c2, l2, m2⟩ := lc_inv (g := mgName 16) (m := mCall 2 f__law_some (mCons (mBag 1) (mCons (mG (mLst (mCons (mG (mC (.int 0))) (mCons (mG (mC (.int 1))) (mCons (mG (mC (.int 2))) (mCons (mG (mC (.int 3))) (mCons (mG (mNeg (mC (.int 1)))) (mCons (mG (mC (.bool true))) (mCons (mG (mC .none)) (mCons (mG (mC (.str "1"))) (mCons (mG (mOp powP (mC (.int 10)) (mC (.int 30)))) mNil))))))))))) mNil))) (env0 := wipeE (En o2 o3 o4 o5 o6 o7 o8 o9 o10 o11 o12 o13 o14 o15 o16 o17) [16]) (fun B => B.cells.length ≤ 63) (fun d => flatK d) (ds := rangeP 0 r.toNat) (B := B1)
    (fun d _ => ⟨_, rfl, fun B j => by
      obtain ⟨i, B', e, q, c⟩ := some_ok someL (by decide) (by decide) B j
      exact ⟨_, B', r_call (r_cons (r_bag rfl) (r_cons (r_g (el _ B)) r_nil)) rfl e, someL_flat i q, c⟩⟩) c1
  rw [rangeP_len] at l2
  refine ⟨ws, B2, ?_, m2, by omega, c2⟩
  unfold ml_14
  exact s_set (r_ca (r_cons (r_g (r_lc (r_range1 (r_cons (r_g e1) r_nil) ⟨by omega, by omega⟩) (by rw [rangeP_len]; exact Nat.le_trans (show r.toNat ≤ 4 by omega) (by decide)) e2)) r_nil) rfl) rfl
theorem st20 (ws : List PD) (ns : List Int) (hw : ∀ x ∈ ws, flatK x) (hl : ws.length ≤ 4) (hn : ns.length ≤ 5) (hc : B.cells.length ≤ 63) : ∃ a8 a9 a12 B', ml_20 (En o2 o3 o4 o5 o6 o7 o8 o9 (some (.d (.tuple (ns.map PyData.int)))) (some (.d (.tuple ws))) o12 o13 o14 o15 o16 o17) B = .nx (En o2 o3 o4 o5 o6 o7 a8 a9 (some (.d (.tuple (ns.map PyData.int)))) (some (.d (.tuple ws))) a12 o13 o14 o15 o16 o17) B' ∧ B'.cells.length ≤ 63 := by
  have hs : mSeqOfS (mTup (mCons (mG (mVar 11)) (mCons (mG (mVar 10)) (mCons (mG (mCa listP (mCons (mG (mVar 10)) mNil))) (mCons (mG (mRev (mVar 10))) (mCons (mG (mTup mNil)) (mCons (mG (mC .none)) (mCons (mG (mC (.int 3))) mNil)))))))) (En o2 o3 o4 o5 o6 o7 o8 o9 (some (.d (.tuple (ns.map PyData.int)))) (some (.d (.tuple ws))) o12 o13 o14 o15 o16 o17) B = .ok [.tuple ws, .tuple (ns.map PyData.int), .list (ns.map PyData.int), .tuple (ns.map PyData.int).reverse, .tuple [], .none, .int 3] B :=
    r_seqT (r_tup (r_cons (r_g (r_var (x := .tuple ws) rfl)) (r_cons (r_g (r_var (x := .tuple (ns.map PyData.int)) rfl)) (r_cons (r_g (r_ca (r_cons (r_g (r_var (x := .tuple (ns.map PyData.int)) rfl)) r_nil) (z := .list (ns.map PyData.int)) rfl)) (r_cons (r_g (r_rev (r_var (x := .tuple (ns.map PyData.int)) rfl))) (r_cons (r_g (r_tup (ds := []) r_nil rfl (by decide))) (r_cons (r_g r_c) (r_cons (r_g r_c) r_nil))))))) rfl (by show 7 ≤ sizeLine; decide))
  obtain ⟨e2, B2, h1, a8, a9, a12, h2, h3⟩ := s_for (g := mgName 8) (body := mSeq ml_15 (mSeq ml_16 (mSeq ml_17 ml_19))) (fun env B => ∃ a8 a9 a12, env = En o2 o3 o4 o5 o6 o7 a8 a9 (some (.d (.tuple (ns.map PyData.int)))) (some (.d (.tuple ws))) a12 o13 o14 o15 o16 o17 ∧ B.cells.length ≤ 63) hs ⟨o8, o9, o12, rfl, hc⟩ (fun d hd env B ⟨a8, a9, a12, e, c⟩ => by
    subst e
    have hr : Row2 d := by
      simp only [List.mem_cons, List.not_mem_nil, or_false] at hd
      rcases hd with h | h | h | h | h | h | h <;> subst h
      · exact .inr ⟨ws, rfl, hw, by omega⟩
      · exact .inr ⟨_, rfl, flat_ints ns, by rw [List.length_map]; omega⟩
      · exact .inl rfl
      · exact .inr ⟨_, rfl, fun x hx => flat_ints ns x (List.mem_reverse.mp hx), by rw [List.length_reverse, List.length_map]; omega⟩
      · exact .inr ⟨[], rfl, (fun x hx => by cases hx), by decide⟩
      · exact .inl rfl
      · exact .inl rfl
    obtain ⟨b9, b12, B', eb, cb⟩ := body2 (o2 := o2) (o3 := o3) (o4 := o4) (o5 := o5) (o6 := o6) (o7 := o7) (o9 := a9) (o10 := some (.d (.tuple (ns.map PyData.int)))) (o11 := some (.d (.tuple ws))) (o12 := a12) (o13 := o13) (o14 := o14) (o15 := o15) (o16 := o16) (o17 := o17) hr c
    exact ⟨_, rfl, _, B', eb, _, _, _, rfl, cb⟩)
  subst h2
  exact ⟨a8, a9, a12, B2, h1, h3⟩
theorem st21 (hc : B.cells.length ≤ 63) : ∃ (t l : Int) (B' : Bag), ml_21 (En o2 o3 o4 o5 o6 o7 o8 o9 o10 o11 o12 o13 o14 o15 o16 o17) B = .nx (En o2 o3 o4 o5 o6 o7 o8 o9 o10 o11 o12 (some (.d (.int t))) (some (.d (.int l))) o15 o16 o17) B' ∧ l ≤ 7 ∧ B'.cells.length ≤ 63 := by
  obtain ⟨t, B1, e1, p1, p2, c1⟩ := take_e (B := B) 13 (by decide) (by decide) (En o2 o3 o4 o5 o6 o7 o8 o9 o10 o11 o12 o13 o14 o15 o16 o17) rfl hc
  obtain ⟨l, B2, e2, p3, p4, c2⟩ := take_e (B := B1) 8 (by decide) (by decide) (En o2 o3 o4 o5 o6 o7 o8 o9 o10 o11 o12 o13 o14 o15 o16 o17) rfl c1
  exact ⟨t - 6, l - 1, B2, s_par (r_cons (r_g (r_op e1 r_c (subP_int _ _))) (r_cons (r_g (r_op e2 r_c (subP_int _ _))) r_nil)), by omega, c2⟩
theorem st22 (hc : B.cells.length ≤ 63) : ∃ (a b : Int) (B' : Bag), ml_22 (En o2 o3 o4 o5 o6 o7 o8 o9 o10 o11 o12 o13 o14 o15 o16 o17) B = .nx (En o2 o3 o4 o5 o6 o7 o8 o9 o10 o11 o12 o13 o14 (some (.d (.tuple [.int a, .int b]))) o16 o17) B' ∧ b < 2 ^ 32 ∧ B'.cells.length ≤ 63 := by
  obtain ⟨x, B1, e1, p1, p2, c1⟩ := take_e (B := B) 99 (by decide) (by decide) (En o2 o3 o4 o5 o6 o7 o8 o9 o10 o11 o12 o13 o14 o15 o16 o17) rfl hc
  have pw : powP (.int 10) (.int 9) = some (.int 1000000000) := rfl
  have pw6 : powP (.int 10) (.int 60) = some (.int (10 ^ 60)) := rfl
  obtain ⟨y, B2, ey, p3, p4, c2⟩ := take_ok B1 1000000000 (by decide) (by decide) c1
  have e2 : mCall 2 f__law_take (mCons (mBag 1) (mCons (mG (mOp powP (mC (.int 10)) (mC (.int 9)))) mNil)) (En o2 o3 o4 o5 o6 o7 o8 o9 o10 o11 o12 o13 o14 o15 o16 o17) B1 = .ok (.int y) B2 := r_call (r_cons (r_bag rfl) (r_cons (r_g (r_op r_c r_c pw)) r_nil)) rfl ey
  have px : (0 : Int) ≤ 10 ^ 60 := by decide
  obtain ⟨a, b, e3, hb⟩ := low_ok ((10 : Int) ^ 60 + x).toNat (1 + y).toNat (by omega) (by omega) B2
  have q1 : ((((10 : Int) ^ 60 + x).toNat : Nat) : Int) = 10 ^ 60 + x := Int.toNat_of_nonneg (by omega)
  have q2 : (((1 + y).toNat : Nat) : Int) = 1 + y := Int.toNat_of_nonneg (by omega)
  rw [q1, q2] at e3
  refine ⟨a, b, B2, ?_, hb, c2⟩
  unfold ml_22
  exact s_set (r_call (r_cons (r_g (r_op (r_op r_c r_c pw6) e1 (addP_int _ _))) (r_cons (r_g (r_op r_c e2 (addP_int _ _))) r_nil)) rfl e3) rfl
theorem st25 (t l a b : Int) (hl : l ≤ 7) (hb : b < 2 ^ 32) (hc : B.cells.length ≤ 63) : ∃ a8 B', ml_25 (En o2 o3 o4 o5 o6 o7 o8 o9 o10 o11 o12 (some (.d (.int t))) (some (.d (.int l))) (some (.d (.tuple [.int a, .int b]))) o16 o17) B = .nx (En o2 o3 o4 o5 o6 o7 a8 o9 o10 o11 o12 (some (.d (.int t))) (some (.d (.int l))) (some (.d (.tuple [.int a, .int b]))) o16 o17) B' ∧ B'.cells.length ≤ 63 := by
  have z2 : ∀ x y : PD, [x, y].length ≤ sizeLine := fun x y => by show 2 ≤ sizeLine; decide
  have vt : ∀ B, mVar 13 (En o2 o3 o4 o5 o6 o7 o8 o9 o10 o11 o12 (some (.d (.int t))) (some (.d (.int l))) (some (.d (.tuple [.int a, .int b]))) o16 o17) B = .ok (.int t) B := fun B => r_var rfl
  have vl : ∀ B, mVar 14 (En o2 o3 o4 o5 o6 o7 o8 o9 o10 o11 o12 (some (.d (.int t))) (some (.d (.int l))) (some (.d (.tuple [.int a, .int b]))) o16 o17) B = .ok (.int l) B := fun B => r_var rfl
  have vg : ∀ B, mVar 15 (En o2 o3 o4 o5 o6 o7 o8 o9 o10 o11 o12 (some (.d (.int t))) (some (.d (.int l))) (some (.d (.tuple [.int a, .int b]))) o16 o17) B = .ok (.tuple [.int a, .int b]) B := fun B => r_var rfl
  obtain ⟨e2, B2, h1, a8, h2, h3⟩ := s_for (g := mgName 8) (body := ml_24) (ds := [.tuple [.int t, .int l], .list [.int t, .int l], .tuple [.int t], .tuple [.int t, .int l, .int 1], .none, .int 7, .tuple [.bool true, .int 1], .tuple [.int 1, .bool true], .tuple [.str "1", .int 1], .tuple [.int a, .int b], .tuple [.int 2, .int 2], .tuple [.int 0, .int 1], .tuple [.int 0, .int 2]]) (fun env B => ∃ a8, env = En o2 o3 o4 o5 o6 o7 a8 o9 o10 o11 o12 (some (.d (.int t))) (some (.d (.int l))) (some (.d (.tuple [.int a, .int b]))) o16 o17 ∧ B.cells.length ≤ 63)
    (env := En o2 o3 o4 o5 o6 o7 o8 o9 o10 o11 o12 (some (.d (.int t))) (some (.d (.int l))) (some (.d (.tuple [.int a, .int b]))) o16 o17) (B := B) (B1 := B) (src := mSeqOfS (mTup (mCons (mG (mTup (mCons (mG (mVar 13)) (mCons (mG (mVar 14)) mNil)))) (mCons (mG (mLst (mCons (mG (mVar 13)) (mCons (mG (mVar 14)) mNil)))) (mCons (mG (mTup (mCons (mG (mVar 13)) mNil))) (mCons (mG (mTup (mCons (mG (mVar 13)) (mCons (mG (mVar 14)) (mCons (mG (mC (.int 1))) mNil))))) (mCons (mG (mC .none)) (mCons (mG (mC (.int 7))) (mCons (mG (mTup (mCons (mG (mC (.bool true))) (mCons (mG (mC (.int 1))) mNil)))) (mCons (mG (mTup (mCons (mG (mC (.int 1))) (mCons (mG (mC (.bool true))) mNil)))) (mCons (mG (mTup (mCons (mG (mC (.str "1"))) (mCons (mG (mC (.int 1))) mNil)))) (mCons (mG (mVar 15)) (mCons (mG (mTup (mCons (mG (mC (.int 2))) (mCons (mG (mC (.int 2))) mNil)))) (mCons (mG (mTup (mCons (mG (mC (.int 0))) (mCons (mG (mC (.int 1))) mNil)))) (mCons (mG (mTup (mCons (mG (mC (.int 0))) (mCons (mG (mC (.int 2))) mNil)))) mNil))))))))))))))) (by repeat' first | with_reducible assumption | exact len_le (by simp) | with_reducible exact r_c | with_reducible exact r_noPart | with_reducible exact r_nil | with_reducible exact s_skip | with_reducible apply r_var | with_reducible apply r_bag | with_reducible apply r_op | with_reducible apply r_cmp | with_reducible apply r_b | with_reducible apply r_isi | with_reducible apply r_isi2 | with_reducible apply r_neg | with_reducible apply r_g | with_reducible apply r_cons | with_reducible apply r_tup | with_reducible apply r_lst | with_reducible apply r_ca | with_reducible apply r_bagIx | with_reducible apply r_sl | with_reducible apply r_part | with_reducible apply r_not | with_reducible apply r_rev | with_reducible apply r_seqT | with_reducible apply s_set | with_reducible apply s_par | with_reducible apply s_ret | with_reducible apply s_bagSet | with_reducible apply s_bagAug | with_reducible exact addP_int _ _ | with_reducible exact subP_int _ _ | with_reducible exact eqP_int _ _ | with_reducible exact neP_int _ _ | with_reducible exact ltP_int _ _ | with_reducible exact leP_int _ _ | with_reducible exact gtP_int _ _ | with_reducible exact geP_int _ _ | with_reducible exact intP_int _ | with_reducible exact absP_int _ | with_reducible exact modP_pos (by first | assumption | decide) | with_reducible exact mulP_r (by decide) | with_reducible exact mulP_l (by decide) | exact rfl) ⟨o8, rfl, hc⟩ (fun d hd env B ⟨a8, e, c⟩ => by
    subst e
    have hr : fracOk d := by
      simp only [List.mem_cons, List.not_mem_nil, or_false] at hd
      rcases hd with h | h | h | h | h | h | h | h | h | h | h | h | h <;> subst h <;> first | trivial | (show (_ : Int) < 2 ^ 32; omega) | (show (_ : Int) < 2 ^ 32; decide)
    obtain ⟨f1, f2⟩ := frac_ok d hr B
    refine ⟨_, rfl, En o2 o3 o4 o5 o6 o7 (some (.d d)) o9 o10 o11 o12 (some (.d (.int t))) (some (.d (.int l))) (some (.d (.tuple [.int a, .int b]))) o16 o17, B, ?_, some (.d d), rfl, c⟩
    unfold ml_24
    exact s_ifF (r_not (r_truB (r_call (r_cons (r_g (r_call (r_cons (r_g (r_var (x := d) rfl)) r_nil) rfl f1)) (r_cons (r_g (r_call (r_cons (r_g (r_var (x := d) rfl)) r_nil) rfl f2)) r_nil)) rfl (alike1 _ B)))) s_skip)
  subst h2
  exact ⟨a8, B2, h1, h3⟩
end
theorem plain_law : ∀ ns, ns.length ≤ 63 → ∃ B, m_law (envL 18 1) (bag0 ns) = .ret (.bool true) B := by
  intro ns hns
  have hc : (bag0 ns).cells.length ≤ 63 := by
    show (ns.map Int.natAbs).length ≤ 63
    rw [List.length_map]; exact hns
  have hs : mRange1 (mCons (mG (mC (.int 10))) mNil) (envL 18 1) (bag0 ns) = .ok (rangeP 0 10) (bag0 ns) := r_range1 (j := 10) (r_cons (r_g r_c) r_nil) (by decide)
  obtain ⟨e2, B2, h1, _⟩ := s_for (g := mgName 2) (body := mSeq ml_0 (mSeq ml_1 (mSeq ml_3 (mSeq ml_5 (mSeq ml_6 (mSeq ml_12 (mSeq ml_13 (mSeq ml_14 (mSeq ml_20 (mSeq ml_21 (mSeq ml_22 ml_25)))))))))))
    (fun env B => ∃ o2 o3 o4 o5 o6 o7 o8 o9 o10 o11 o12 o13 o14 o15 o16 o17, env = En o2 o3 o4 o5 o6 o7 o8 o9 o10 o11 o12 o13 o14 o15 o16 o17 ∧ B.cells.length ≤ 63) hs ⟨none, none, none, none, none, none, none, none, none, none, none, none, none, none, none, none, rfl, hc⟩ (fun d hd env B ⟨o2, o3, o4, o5, o6, o7, o8, o9, o10, o11, o12, o13, o14, o15, o16, o17, e, c⟩ => by
    subst e
    obtain ⟨w, nm, B1, e1, w1, c1⟩ := st0 (o2 := some (.d d)) (o3 := o3) (o4 := o4) (o5 := o5) (o6 := o6) (o7 := o7) (o8 := o8) (o9 := o9) (o10 := o10) (o11 := o11) (o12 := o12) (o13 := o13) (o14 := o14) (o15 := o15) (o16 := o16) (o17 := o17) c
    obtain ⟨l, m, B2, e2, c2⟩ := st1 (o2 := some (.d d)) (o3 := some (.d w)) (o4 := some (.d nm)) (o5 := o5) (o6 := o6) (o7 := o7) (o8 := o8) (o9 := o9) (o10 := o10) (o11 := o11) (o12 := o12) (o13 := o13) (o14 := o14) (o15 := o15) (o16 := o16) (o17 := o17) c1
    obtain ⟨ws, B3, e3, w3, l3, c3⟩ := st6 (o2 := some (.d d)) (o3 := some (.d w)) (o4 := some (.d nm)) (o5 := some (.d (.int l))) (o6 := some (.d (.int m))) (o7 := o7) (o8 := o8) (o9 := o9) (o10 := o10) (o11 := o11) (o12 := o12) (o13 := o13) (o14 := o14) (o15 := o15) (o16 := o16) (o17 := o17) c2
    obtain ⟨x8, x9, B4, e4, c4⟩ := st12 (o2 := some (.d d)) (o3 := some (.d w)) (o4 := some (.d nm)) (l := l) (m := m) (o8 := o8) (o9 := o9) (o10 := o10) (o11 := o11) (o12 := o12) (o13 := o13) (o14 := o14) (o15 := o15) (o16 := o16) (o17 := o17) ws w3 l3 c3
    obtain ⟨ks, B5, e5, l5, c5⟩ := st13 (o2 := some (.d d)) (o3 := some (.d w)) (o4 := some (.d nm)) (o5 := some (.d (.int l))) (o6 := some (.d (.int m))) (o7 := some (.d (.tuple ws))) (o8 := x8) (o9 := x9) (o10 := o10) (o11 := o11) (o12 := o12) (o13 := o13) (o14 := o14) (o15 := o15) (o16 := o16) (o17 := o17) c4
    obtain ⟨vs, B6, e6, w6, l6, c6⟩ := st14 (o2 := some (.d d)) (o3 := some (.d w)) (o4 := some (.d nm)) (o5 := some (.d (.int l))) (o6 := some (.d (.int m))) (o7 := some (.d (.tuple ws))) (o8 := x8) (o9 := x9) (o10 := some (.d (.tuple (ks.map PyData.int)))) (o11 := o11) (o12 := o12) (o13 := o13) (o14 := o14) (o15 := o15) (o16 := o16) (o17 := o17) c5
    obtain ⟨y8, y9, y12, B7, e7, c7⟩ := st20 (o2 := some (.d d)) (o3 := some (.d w)) (o4 := some (.d nm)) (o5 := some (.d (.int l))) (o6 := some (.d (.int m))) (o7 := some (.d (.tuple ws))) (o8 := x8) (o9 := x9) (o12 := o12) (o13 := o13) (o14 := o14) (o15 := o15) (o16 := o16) (o17 := o17) vs ks w6 l6 l5 c6
    obtain ⟨t, lo, B8, e8, l8, c8⟩ := st21 (o2 := some (.d d)) (o3 := some (.d w)) (o4 := some (.d nm)) (o5 := some (.d (.int l))) (o6 := some (.d (.int m))) (o7 := some (.d (.tuple ws))) (o8 := y8) (o9 := y9) (o10 := some (.d (.tuple (ks.map PyData.int)))) (o11 := some (.d (.tuple vs))) (o12 := y12) (o13 := o13) (o14 := o14) (o15 := o15) (o16 := o16) (o17 := o17) c7
    obtain ⟨a, b, B9, e9, l9, c9⟩ := st22 (o2 := some (.d d)) (o3 := some (.d w)) (o4 := some (.d nm)) (o5 := some (.d (.int l))) (o6 := some (.d (.int m))) (o7 := some (.d (.tuple ws))) (o8 := y8) (o9 := y9) (o10 := some (.d (.tuple (ks.map PyData.int)))) (o11 := some (.d (.tuple vs))) (o12 := y12) (o13 := some (.d (.int t))) (o14 := some (.d (.int lo))) (o15 := o15) (o16 := o16) (o17 := o17) c8
    obtain ⟨z8, B10, e10, c10⟩ := st25 (o2 := some (.d d)) (o3 := some (.d w)) (o4 := some (.d nm)) (o5 := some (.d (.int l))) (o6 := some (.d (.int m))) (o7 := some (.d (.tuple ws))) (o8 := y8) (o9 := y9) (o10 := some (.d (.tuple (ks.map PyData.int)))) (o11 := some (.d (.tuple vs))) (o12 := y12) (o16 := o16) (o17 := o17) t lo a b l8 l9 c9
    exact ⟨_, rfl, _, B10, s_seq e1 (s_seq e2 (s_seq (st3 w1) (s_seq st5 (s_seq e3 (s_seq e4 (s_seq e5 (s_seq e6 (s_seq e7 (s_seq e8 (s_seq e9 e10)))))))))), _, _, _, _, _, _, _, _, _, _, _, _, _, _, _, _, rfl, c10⟩)
  exact ⟨B2, s_seq h1 (s_ret r_c)⟩
end DL
set_option Elab.async false
set_option linter.all false
set_option maxRecDepth 100000
set_option maxHeartbeats 4000000
namespace DL
open PySem L2 C8
/-! ### the text by places -/
def top (i : Nat) : Stmt := PySem.Challenge.pw_stillsums_k01_forms_of_any_values.main.body.getD i (.Pass ⟨0, 0, 0, 0⟩)
abbrev s_is_integer : Stmt := top 4
abbrev s_is_within : Stmt := top 5
abbrev s_is_name : Stmt := top 6
abbrev s_are_names : Stmt := top 7
abbrev s_is_index_lot : Stmt := top 8
abbrev s_divisor_of : Stmt := top 9
abbrev s_is_fraction : Stmt := top 10
abbrev s__law_take : Stmt := top 12
abbrev s__law_some : Stmt := top 13
abbrev s__law_alike : Stmt := top 15
abbrev s__law_is_int : Stmt := top 16
abbrev s__law_divisor : Stmt := top 17
abbrev s__law_lowest : Stmt := top 18
abbrev s__law_is_fraction : Stmt := top 19
abbrev s__law_is_name : Stmt := top 20
abbrev s__law_word : Stmt := top 21
abbrev s_law : Stmt := top 22
abbrev s__law_bag : Stmt := top 14
structure Txt (K : Fg) (mg : Str → Option Value) : Prop where
  abs : mg "abs" = none
  all : mg "all" = none
  bool : mg "bool" = none
  int : mg "int" = none
  isinstance : mg "isinstance" = none
  len : mg "len" = none
  list : mg "list" = none
  range : mg "range" = none
  set : mg "set" = none
  sorted : mg "sorted" = none
  str : mg "str" = none
  tuple : mg "tuple" = none
  zip : mg "zip" = none
  LETTERS : GC K mg "LETTERS" (.str "abcdefghijklmnopqrstuvwxyz") d_LETTERS
  MOST_NAME : GC K mg "MOST_NAME" (.int 8) d_MOST_NAME
  RESERVED : ∃ a, GC K mg "RESERVED" (.ref a) d_RESERVED
section
variable {P : Program} {w : World} {K : Fg} {mg : Str → Option Value} {base : Heap}
theorem sc_is_integer : FnScope ["thing"] ["thing"] (fnScope s_is_integer) := fnScope_by (by decide +kernel)
theorem ok_is_integer {f : Addr} {fd : FuncData} (F : Def K mg "is_integer" s_is_integer f fd) (b : Binds K fd ["thing"] []) (T : Txt K mg)  : Cal P w K mg base 1 "is_integer" (SpF K mg 1 f_is_integer) [] := by
  refine def_ok (N := ["thing"]) (m := b_is_integer) F b sc_is_integer rfl fun cdv A outer s H E hr => ⟨_, (sds_one (sd_ret (ed_and (ed_isiK K kit_int T.isinstance T.int (ed_var 0) (by decide +kernel)) (ed_one (ed_not (ed_isiK K kit_bool T.isinstance T.bool (ed_var 0) (by decide +kernel)))))))⟩
theorem sc_is_within : FnScope ["thing", "least", "most"] ["thing", "least", "most"] (fnScope s_is_within) := fnScope_by (by decide +kernel)
theorem ok_is_within {f : Addr} {fd : FuncData} (F : Def K mg "is_within" s_is_within f fd) (b : Binds K fd ["thing", "least", "most"] []) (T : Txt K mg) (c_is_integer : Cal P w K mg base 1 "is_integer" (SpF K mg 1 f_is_integer) []) : Cal P w K mg base 2 "is_within" (SpF K mg 3 f_is_within) [] := by
  refine def_ok (N := ["thing", "least", "most"]) (m := b_is_within) F b sc_is_within rfl fun cdv A outer s H E hr => ⟨_, (sds_one (sd_ret (ed_and (ed_defK K mg c_is_integer hr (by decide) (ad_cons (gd (ed_var 0)) ad_nil)) (ed_one (ed_chain op_le opC_int op_le opC_int (ed_var 1) (ed_var 0) (ed_var 2))))))⟩
theorem sc_is_name : FnScope ["thing", "sign"] ["thing"] (fnScope s_is_name) := fnScope_by (by decide +kernel)
theorem ok_is_name {f : Addr} {fd : FuncData} (F : Def K mg "is_name" s_is_name f fd) (b : Binds K fd ["thing"] []) (T : Txt K mg)  : Cal P w K mg base 1 "is_name" (SpF K mg 1 f_is_name) [] := by
  obtain ⟨a_RESERVED, h_RESERVED⟩ := T.RESERVED
  refine def_ok (N := ["thing", "sign"]) (m := b_is_name) F b sc_is_name rfl fun cdv A outer s H E hr => ⟨_, (sds_cons (sd_if (WD.td (wd_or (td_not (td_truK K (ed_isiK K kit_str T.isinstance T.str (ed_var 0) (by decide +kernel)))) (wd_or (td_not (td_chain op_le opC_int op_le opC_int ed_int (ed_ca (r := rLenK K) call_len ca_len T.len (by decide +kernel) (ad_cons (gd (ed_var 0)) ad_nil)) (ed_gl T.MOST_NAME))) (wd_or1 (td_cmp (r := rOr (rIn K false) (rInS false)) op_inU opC_in (ed_var 0) (ed_gl h_RESERVED)))))) (sds_one (sd_ret ed_bl)) sds_nil)
      (sds_one (sd_ret (ed_ca (r := rAll K) (cr_all rfl) ca_all T.all (by decide +kernel) (ad_cons (gd (ed_lc [("sign", 1)] rfl sc_is_name.nd (wi_seqSK K (ed_var 0)) (fun _ _ _ _ _ => (gt_name 1 sc_is_name.nd)) (fun _ _ _ _ _ => tds_nil) (fun _ _ _ _ _ => (ed_cmp (r := rOr (rIn K false) (rInS false)) op_inU opC_in (ed_var 1) (ed_gl T.LETTERS))))) ad_nil)))))⟩
theorem sc_are_names : FnScope ["thing", "least", "most", "one"] ["thing", "least", "most"] (fnScope s_are_names) := fnScope_by (by decide +kernel)
theorem ok_are_names {f : Addr} {fd : FuncData} (F : Def K mg "are_names" s_are_names f fd) (b : Binds K fd ["thing", "least", "most"] []) (T : Txt K mg) (c_is_name : Cal P w K mg base 1 "is_name" (SpF K mg 1 f_is_name) []) : Cal P w K mg base 2 "are_names" (SpF K mg 3 f_are_names) [] := by
  refine def_ok (N := ["thing", "least", "most", "one"]) (m := b_are_names) F b sc_are_names rfl fun cdv A outer s H E hr => ⟨_, (sds_cons (sd_if (WD.td (wd_or (td_not (td_truK K (ed_isiK K kit_tuple T.isinstance T.tuple (ed_var 0) (by decide +kernel)))) (wd_or (td_not (td_chain op_le opC_int op_le opC_int (ed_var 1) (ed_ca (r := rLenK K) call_len ca_len T.len (by decide +kernel) (ad_cons (gd (ed_var 0)) ad_nil)) (ed_var 2))) (wd_or1 (td_not (td_truK K (ed_ca (r := rAll K) (cr_all rfl) ca_all T.all (by decide +kernel) (ad_cons (gd (ed_lc [("one", 3)] rfl sc_are_names.nd (wi_seqSK K (ed_var 0)) (fun _ _ _ _ _ => (gt_name 3 sc_are_names.nd)) (fun _ _ _ _ _ => tds_nil) (fun _ _ _ _ _ => (ed_defK K mg c_is_name hr (by decide) (ad_cons (gd (ed_var 3)) ad_nil))))) ad_nil)))))))) (sds_one (sd_ret ed_bl)) sds_nil)
      (sds_one (sd_ret (ed_cmp (r := rEqD K) (op_eqD hr.units) opC_eq (ed_dcLen 3 rfl sc_are_names.nd T.len (wi_seqSK K (ed_var 0)) (fun _ _ _ _ _ => pe_var rfl (by first | exact Or.inl rfl | exact Or.inr (Or.inl rfl) | exact Or.inr (Or.inr rfl)) (by decide) (by decide)) (fun _ _ _ _ _ => pg_name sc_are_names.nd rfl (Or.inl rfl))) (ed_ca (r := rLenK K) call_len ca_len T.len (by decide +kernel) (ad_cons (gd (ed_var 0)) ad_nil))))))⟩
theorem sc_is_index_lot : FnScope ["thing", "many", "one"] ["thing", "many"] (fnScope s_is_index_lot) := fnScope_by (by decide +kernel)
theorem ok_is_index_lot {f : Addr} {fd : FuncData} (F : Def K mg "is_index_lot" s_is_index_lot f fd) (b : Binds K fd ["thing", "many"] []) (T : Txt K mg) (c_is_within : Cal P w K mg base 2 "is_within" (SpF K mg 3 f_is_within) []) : Cal P w K mg base 3 "is_index_lot" (SpF K mg 2 f_is_index_lot) [] := by
  refine def_ok (N := ["thing", "many", "one"]) (m := b_is_index_lot) F b sc_is_index_lot rfl fun cdv A outer s H E hr => ⟨_, (sds_cons (sd_if (WD.td (wd_or (td_not (td_truK K (ed_isiK K kit_tuple T.isinstance T.tuple (ed_var 0) (by decide +kernel)))) (wd_or (td_cmp (r := rEqD K) (op_eqD hr.units) opC_eq (ed_var 0) (ed_tup ad_nil)) (wd_or1 (td_not (td_truK K (ed_ca (r := rAll K) (cr_all rfl) ca_all T.all (by decide +kernel) (ad_cons (gd (ed_lc [("one", 2)] rfl sc_is_index_lot.nd (wi_seqSK K (ed_var 0)) (fun _ _ _ _ _ => (gt_name 2 sc_is_index_lot.nd)) (fun _ _ _ _ _ => tds_nil) (fun _ _ _ _ _ => (ed_defK K mg c_is_within hr (by decide) (ad_cons (gd (ed_var 2)) (ad_cons (gd ed_int) (ad_cons (gd (ed_sub (ed_var 1) ed_int)) ad_nil))))))) ad_nil)))))))) (sds_one (sd_ret ed_bl)) sds_nil)
      (sds_one (sd_ret (ed_cmp (r := rEqD K) (op_eqD hr.units) opC_eq (ed_ct (r := rListK K) call_list_of ca_list T.list (by decide +kernel) (ad_cons (gd (ed_var 0)) ad_nil)) (ed_dcSrt 2 rfl sc_is_index_lot.nd T.sorted (wi_seqSK K (ed_var 0)) (fun _ _ _ _ _ => pe_var rfl (by first | exact Or.inl rfl | exact Or.inr (Or.inl rfl) | exact Or.inr (Or.inr rfl)) (by decide) (by decide)) (fun _ _ _ _ _ => pg_name sc_is_index_lot.nd rfl (Or.inl rfl)))))))⟩
theorem sc_divisor_of : FnScope ["one", "other"] ["one", "other"] (fnScope s_divisor_of) := fnScope_by (by decide +kernel)
theorem ok_divisor_of {f : Addr} {fd : FuncData} (F : Def K mg "divisor_of" s_divisor_of f fd) (b : Binds K fd ["one", "other"] []) (T : Txt K mg)  : Cal P w K mg base 1 "divisor_of" (SpF K mg 2 f_divisor_of) [] := by
  refine def_ok (N := ["one", "other"]) (m := b_divisor_of) F b sc_divisor_of rfl fun cdv A outer s H E hr => ⟨_, (sds_cons (sd_while PassesOwn.never (td_cmp (r := rNeD K) (op_neD hr.units) opC_ne (ed_var 1) ed_int) (sds_one (sd_par 0 1 rfl sc_divisor_of.nd (ad_cons (gd (ed_var 1)) (ad_cons (gd (ed_mod (ed_var 0) (ed_var 1))) ad_nil)))))
      (sds_one (sd_ret (ed_var 0))))⟩
theorem sc_is_fraction : FnScope ["thing", "one"] ["thing"] (fnScope s_is_fraction) := fnScope_by (by decide +kernel)
theorem ok_is_fraction {f : Addr} {fd : FuncData} (F : Def K mg "is_fraction" s_is_fraction f fd) (b : Binds K fd ["thing"] []) (T : Txt K mg) (c_is_integer : Cal P w K mg base 1 "is_integer" (SpF K mg 1 f_is_integer) []) (c_divisor_of : Cal P w K mg base 1 "divisor_of" (SpF K mg 2 f_divisor_of) []) : Cal P w K mg base 2 "is_fraction" (SpF K mg 1 f_is_fraction) [] := by
  refine def_ok (N := ["thing", "one"]) (m := b_is_fraction) F b sc_is_fraction rfl fun cdv A outer s H E hr => ⟨_, (sds_cons (sd_if (WD.td (wd_or (td_not (td_truK K (ed_isiK K kit_tuple T.isinstance T.tuple (ed_var 0) (by decide +kernel)))) (wd_or (td_cmp (r := rNeD K) (op_neD hr.units) opC_ne (ed_ca (r := rLenK K) call_len ca_len T.len (by decide +kernel) (ad_cons (gd (ed_var 0)) ad_nil)) ed_int) (wd_or1 (td_not (td_truK K (ed_ca (r := rAll K) (cr_all rfl) ca_all T.all (by decide +kernel) (ad_cons (gd (ed_lc [("one", 1)] rfl sc_is_fraction.nd (wi_seqSK K (ed_var 0)) (fun _ _ _ _ _ => (gt_name 1 sc_is_fraction.nd)) (fun _ _ _ _ _ => tds_nil) (fun _ _ _ _ _ => (ed_defK K mg c_is_integer hr (by decide) (ad_cons (gd (ed_var 1)) ad_nil))))) ad_nil)))))))) (sds_one (sd_ret ed_bl)) sds_nil)
      (sds_one (sd_ret (ed_and (ed_cmp op_ge opC_int (ed_ixK K (ed_var 0) ed_int) ed_int) (ed_one (ed_cmp (r := rEqD K) (op_eqD hr.units) opC_eq (ed_defK K mg c_divisor_of hr (by decide) (ad_cons (gd (ed_ca call_abs ca_abs T.abs (by decide +kernel) (ad_cons (gd (ed_ixK K (ed_var 0) ed_int)) ad_nil))) (ad_cons (gd (ed_ixK K (ed_var 0) ed_int)) ad_nil))) ed_int))))))⟩
theorem sc__law_take : FnScope ["bag", "many", "cell", "stirred", "value", "begin", "second"] ["bag", "many"] (fnScope s__law_take) := fnScope_by (by decide +kernel)
theorem ok__law_take {f : Addr} {fd : FuncData} (F : Def K mg "_law_take" s__law_take f fd) (b : Binds K fd ["bag", "many"] []) (T : Txt K mg)  : Cal P w K mg base 1 "_law_take" (SpF K mg 2 f__law_take) [] := by
  refine def_ok (N := ["bag", "many", "cell", "stirred", "value", "begin", "second"]) (m := b__law_take) F b sc__law_take rfl fun cdv A outer s H E hr => ⟨_, (sds_cons (sd_if (td_cmp (r := rEqD K) (op_eqD hr.units) opC_eq (ed_bagK K 0 0) ed_int) (sds_cons (sd_set 2 sc__law_take.nd (ed_ixK K (ed_addK K (ed_sliceK K (ed_bagK K 0 3) (od_some (ed_bagK K 0 2)) od_none) (ed_lst (ad_cons (gd ed_int) ad_nil))) ed_int))
      (sds_cons (sd_bagAug 0 2 1)
      (sds_cons (sd_if (td_cmp op_ge opC_int (ed_var 2) (ed_pow ed_int ed_int)) (sds_one (sd_bagSet 0 0 (ed_var 2))) sds_nil)
      (sds_cons (sd_set 3 sc__law_take.nd (ed_addK K (ed_addK K (ed_mul (ed_bagK K 0 1) ed_int) (ed_mod (ed_ct call_int1 ca_int T.int (by decide +kernel) (ad_cons (gd (ed_var 2)) ad_nil)) ed_int)) (ed_mul ed_int (ed_bagK K 0 2))))
      (sds_one (sd_bagSet 0 1 (ed_mod (ed_ct call_int1 ca_int T.int (by decide +kernel) (ad_cons (gd (ed_var 3)) ad_nil)) ed_int))))))) sds_nil)
      (sds_cons (sd_if (td_cmp op_gt opC_int (ed_bagK K 0 0) ed_int) (sds_cons (sd_set 4 sc__law_take.nd (ed_mod (ed_ct call_int1 ca_int T.int (by decide +kernel) (ad_cons (gd (ed_bagK K 0 0)) ad_nil)) (ed_var 1)))
      (sds_cons (sd_bagSet 0 0 (ed_fdiv (ed_ct call_int1 ca_int T.int (by decide +kernel) (ad_cons (gd (ed_bagK K 0 0)) ad_nil)) (ed_var 1)))
      (sds_one (sd_ret (ed_var 4))))) sds_nil)
      (sds_cons (sd_set 5 sc__law_take.nd (ed_mod (ed_ct call_int1 ca_int T.int (by decide +kernel) (ad_cons (gd (ed_mul (ed_addK K (ed_bagK K 0 1) ed_int) ed_int)) ad_nil)) ed_int))
      (sds_cons (sd_set 6 sc__law_take.nd (ed_mod (ed_ct call_int1 ca_int T.int (by decide +kernel) (ad_cons (gd (ed_mul (ed_mod (ed_ct call_int1 ca_int T.int (by decide +kernel) (ad_cons (gd (ed_mul (ed_var 5) (ed_var 5))) ad_nil)) ed_int) ed_int)) ad_nil)) ed_int))
      (sds_one (sd_ret (ed_mod (ed_ct call_int1 ca_int T.int (by decide +kernel) (ad_cons (gd (ed_fdiv (ed_var 6) ed_int)) ad_nil)) (ed_var 1))))))))⟩
theorem sc__law_some : FnScope ["bag", "things"] ["bag", "things"] (fnScope s__law_some) := fnScope_by (by decide +kernel)
theorem ok__law_some {f : Addr} {fd : FuncData} (F : Def K mg "_law_some" s__law_some f fd) (b : Binds K fd ["bag", "things"] []) (T : Txt K mg) (c__law_take : Cal P w K mg base 1 "_law_take" (SpF K mg 2 f__law_take) []) : Cal P w K mg base 2 "_law_some" (SpF K mg 2 f__law_some) [] := by
  refine def_ok (N := ["bag", "things"]) (m := b__law_some) F b sc__law_some rfl fun cdv A outer s H E hr => ⟨_, (sds_one (sd_ret (ed_ixK K (ed_var 1) (ed_defK K mg c__law_take hr (by decide) (ad_cons (gd_bag 0) (ad_cons (gd (ed_ca (r := rLenK K) call_len ca_len T.len (by decide +kernel) (ad_cons (gd (ed_var 1)) ad_nil))) ad_nil))))))⟩
theorem sc__law_alike : FnScope ["found", "due", "pairs", "at", "one", "other"] ["found", "due"] (fnScope s__law_alike) := fnScope_by (by decide +kernel)
theorem ok__law_alike {f : Addr} {fd : FuncData} (F : Def K mg "_law_alike" s__law_alike f fd) (b : Binds K fd ["found", "due"] []) (T : Txt K mg)  : Cal P w K mg base 1 "_law_alike" (SpF K mg 2 f__law_alike) [] := by
  refine def_ok (N := ["found", "due", "pairs", "at", "one", "other"]) (m := b__law_alike) F b sc__law_alike rfl fun cdv A outer s H E hr => ⟨_, (sds_cons (sd_parOwn 2 3 rfl sc__law_alike.nd (ad_cons (gd (ed_tup (ad_cons (gd (ed_var 0)) (ad_cons (gd (ed_var 1)) ad_nil)))) ad_nil) ed_int)
      (sds_cons (sd_while PassesOwn.never (td_cmp op_lt opC_int (ed_var 3) (ed_lenOwn 2 T.len)) (sds_cons (sd_asg (ed_ixOwnK K 2 (ed_var 3)) (gt_tupK K rfl (gts_cons (gt_name 4 sc__law_alike.nd) (gts_cons (gt_name 5 sc__law_alike.nd) gts_nil))))
      (sds_cons (sd_aug 3 sc__law_alike.nd ip_add ed_int)
      (sds_cons (sd_if (WD.td (wd_or (td_cmp (r := rNeD K) (op_neD hr.units) opC_ne (ed_isiK K kit_bool T.isinstance T.bool (ed_var 4) (by decide +kernel)) (ed_isiK K kit_bool T.isinstance T.bool (ed_var 5) (by decide +kernel))) (wd_or1 (td_cmp (r := rNeD K) (op_neD hr.units) opC_ne (ed_isiK K kit_str T.isinstance T.str (ed_var 4) (by decide +kernel)) (ed_isiK K kit_str T.isinstance T.str (ed_var 5) (by decide +kernel)))))) (sds_one (sd_ret ed_bl)) sds_nil)
      (sds_cons (sd_if (td_cmp (r := rNeD K) (op_neD hr.units) opC_ne (ed_isi2K K kit_tuple kit_list T.isinstance T.tuple T.list (ed_var 4) (by decide +kernel) (by decide +kernel)) (ed_isi2K K kit_tuple kit_list T.isinstance T.tuple T.list (ed_var 5) (by decide +kernel) (by decide +kernel))) (sds_one (sd_ret ed_bl)) sds_nil)
      (sds_one (sd_if (td_truK K (ed_isi2K K kit_tuple kit_list T.isinstance T.tuple T.list (ed_var 4) (by decide +kernel) (by decide +kernel))) (sds_cons (sd_if (WD.td (wd_or (td_cmp (r := rNeD K) (op_neD hr.units) opC_ne (ed_isiK K kit_tuple T.isinstance T.tuple (ed_var 4) (by decide +kernel)) (ed_isiK K kit_tuple T.isinstance T.tuple (ed_var 5) (by decide +kernel))) (wd_or1 (td_cmp (r := rNeD K) (op_neD hr.units) opC_ne (ed_ca (r := rLenK K) call_len ca_len T.len (by decide +kernel) (ad_cons (gd (ed_var 4)) ad_nil)) (ed_ca (r := rLenK K) call_len ca_len T.len (by decide +kernel) (ad_cons (gd (ed_var 5)) ad_nil)))))) (sds_one (sd_ret ed_bl)) sds_nil)
      (sds_one (let X0 := (ed_listZipK K rfl T.list T.zip (ad_cons (gd (ed_var 4)) (ad_cons (gd (ed_var 5)) ad_nil))); sd_ext 2 X0 (hpe := (pe_bm PySem.F.plainAttrs_list PySem.F.slot_list_extend PySem.F.type_list_extend mt_extend (pe_var (i := 2) rfl (by first | exact Or.inl rfl | exact Or.inr (Or.inl rfl) | exact Or.inr (Or.inr rfl)) (by decide) (by decide)) (pa_cons (ED.pe X0) pa_nil)))))) (sds_one (sd_if (td_cmp (r := rNeD K) (op_neD hr.units) opC_ne (ed_var 4) (ed_var 5)) (sds_one (sd_ret ed_bl)) sds_nil)))))))))
      (sds_one (sd_ret ed_bl))))⟩
theorem sc__law_is_int : FnScope ["thing"] ["thing"] (fnScope s__law_is_int) := fnScope_by (by decide +kernel)
theorem ok__law_is_int {f : Addr} {fd : FuncData} (F : Def K mg "_law_is_int" s__law_is_int f fd) (b : Binds K fd ["thing"] []) (T : Txt K mg)  : Cal P w K mg base 1 "_law_is_int" (SpF K mg 1 f__law_is_int) [] := by
  refine def_ok (N := ["thing"]) (m := b__law_is_int) F b sc__law_is_int rfl fun cdv A outer s H E hr => ⟨_, (sds_one (sd_ret (ed_and (ed_isiK K kit_int T.isinstance T.int (ed_var 0) (by decide +kernel)) (ed_one (ed_not (ed_isiK K kit_bool T.isinstance T.bool (ed_var 0) (by decide +kernel)))))))⟩
theorem sc__law_divisor : FnScope ["one", "other", "turn"] ["one", "other"] (fnScope s__law_divisor) := fnScope_by (by decide +kernel)
theorem ok__law_divisor {f : Addr} {fd : FuncData} (F : Def K mg "_law_divisor" s__law_divisor f fd) (b : Binds K fd ["one", "other"] []) (T : Txt K mg)  : Cal P w K mg base 1 "_law_divisor" (SpF K mg 2 f__law_divisor) [] := by
  refine def_ok (N := ["one", "other", "turn"]) (m := b__law_divisor) F b sc__law_divisor rfl fun cdv A outer s H E hr => ⟨_, (sds_cons (sd_for PassesOwn.never rfl (wi_range1 T.range (ad_cons (gd ed_int) ad_nil)) (gt_name 2 sc__law_divisor.nd) (sds_cons (sd_if (td_cmp (r := rEqD K) (op_eqD hr.units) opC_eq (ed_var 1) ed_int) (sds_one (sd_ret (ed_var 0))) sds_nil)
      (sds_one (sd_par 0 1 rfl sc__law_divisor.nd (ad_cons (gd (ed_var 1)) (ad_cons (gd (ed_mod (ed_ct call_int1 ca_int T.int (by decide +kernel) (ad_cons (gd (ed_var 0)) ad_nil)) (ed_var 1))) ad_nil))))))
      (sds_one (sd_ret ed_int)))⟩
theorem sc__law_lowest : FnScope ["top", "low", "common"] ["top", "low"] (fnScope s__law_lowest) := fnScope_by (by decide +kernel)
theorem ok__law_lowest {f : Addr} {fd : FuncData} (F : Def K mg "_law_lowest" s__law_lowest f fd) (b : Binds K fd ["top", "low"] []) (T : Txt K mg) (c__law_divisor : Cal P w K mg base 1 "_law_divisor" (SpF K mg 2 f__law_divisor) []) : Cal P w K mg base 2 "_law_lowest" (SpF K mg 2 f__law_lowest) [] := by
  refine def_ok (N := ["top", "low", "common"]) (m := b__law_lowest) F b sc__law_lowest rfl fun cdv A outer s H E hr => ⟨_, (sds_cons (sd_set 2 sc__law_lowest.nd (ed_defK K mg c__law_divisor hr (by decide) (ad_cons (gd (ed_ca call_abs ca_abs T.abs (by decide +kernel) (ad_cons (gd (ed_var 0)) ad_nil))) (ad_cons (gd (ed_ca call_abs ca_abs T.abs (by decide +kernel) (ad_cons (gd (ed_var 1)) ad_nil))) ad_nil))))
      (sds_cons (sd_if (td_cmp op_lt opC_int (ed_var 1) ed_int) (sds_one (sd_set 2 sc__law_lowest.nd (ed_sub ed_int (ed_var 2)))) sds_nil)
      (sds_one (sd_ret (ed_tup (ad_cons (gd (ed_fdiv (ed_ct call_int1 ca_int T.int (by decide +kernel) (ad_cons (gd (ed_var 0)) ad_nil)) (ed_var 2))) (ad_cons (gd (ed_fdiv (ed_ct call_int1 ca_int T.int (by decide +kernel) (ad_cons (gd (ed_var 1)) ad_nil)) (ed_var 2))) ad_nil)))))))⟩
theorem sc__law_is_fraction : FnScope ["thing"] ["thing"] (fnScope s__law_is_fraction) := fnScope_by (by decide +kernel)
theorem ok__law_is_fraction {f : Addr} {fd : FuncData} (F : Def K mg "_law_is_fraction" s__law_is_fraction f fd) (b : Binds K fd ["thing"] []) (T : Txt K mg) (c__law_is_int : Cal P w K mg base 1 "_law_is_int" (SpF K mg 1 f__law_is_int) []) (c__law_divisor : Cal P w K mg base 1 "_law_divisor" (SpF K mg 2 f__law_divisor) []) : Cal P w K mg base 2 "_law_is_fraction" (SpF K mg 1 f__law_is_fraction) [] := by
  refine def_ok (N := ["thing"]) (m := b__law_is_fraction) F b sc__law_is_fraction rfl fun cdv A outer s H E hr => ⟨_, (sds_cons (sd_if (WD.td (wd_or (td_not (td_truK K (ed_isiK K kit_tuple T.isinstance T.tuple (ed_var 0) (by decide +kernel)))) (wd_or (td_cmp (r := rNeD K) (op_neD hr.units) opC_ne (ed_ca (r := rLenK K) call_len ca_len T.len (by decide +kernel) (ad_cons (gd (ed_var 0)) ad_nil)) ed_int) (wd_or (td_not (td_truK K (ed_defK K mg c__law_is_int hr (by decide) (ad_cons (gd (ed_ixK K (ed_var 0) ed_int)) ad_nil)))) (wd_or1 (td_not (td_truK K (ed_defK K mg c__law_is_int hr (by decide) (ad_cons (gd (ed_ixK K (ed_var 0) ed_int)) ad_nil))))))))) (sds_one (sd_ret ed_bl)) sds_nil)
      (sds_one (sd_ret (ed_and (ed_cmp op_ge opC_int (ed_ixK K (ed_var 0) ed_int) ed_int) (ed_one (ed_cmp (r := rEqD K) (op_eqD hr.units) opC_eq (ed_defK K mg c__law_divisor hr (by decide) (ad_cons (gd (ed_ca call_abs ca_abs T.abs (by decide +kernel) (ad_cons (gd (ed_ixK K (ed_var 0) ed_int)) ad_nil))) (ad_cons (gd (ed_ixK K (ed_var 0) ed_int)) ad_nil))) ed_int))))))⟩
theorem sc__law_is_name : FnScope ["thing", "sign"] ["thing"] (fnScope s__law_is_name) := fnScope_by (by decide +kernel)
theorem ok__law_is_name {f : Addr} {fd : FuncData} (F : Def K mg "_law_is_name" s__law_is_name f fd) (b : Binds K fd ["thing"] []) (T : Txt K mg)  : Cal P w K mg base 1 "_law_is_name" (SpF K mg 1 f__law_is_name) [] := by
  refine def_ok (N := ["thing", "sign"]) (m := b__law_is_name) F b sc__law_is_name rfl fun cdv A outer s H E hr => ⟨_, (sds_cons (sd_if (WD.td (wd_or (td_not (td_truK K (ed_isiK K kit_str T.isinstance T.str (ed_var 0) (by decide +kernel)))) (wd_or (td_not (td_chain op_le opC_int op_le opC_int ed_int (ed_ca (r := rLenK K) call_len ca_len T.len (by decide +kernel) (ad_cons (gd (ed_var 0)) ad_nil)) ed_int)) (wd_or1 (td_cmp (r := rOr (rIn K false) (rInS false)) op_inU opC_in (ed_var 0) (ed_tup (ad_cons (gd ed_str) (ad_cons (gd ed_str) (ad_cons (gd ed_str) (ad_cons (gd ed_str) ad_nil)))))))))) (sds_one (sd_ret ed_bl)) sds_nil)
      (sds_one (sd_ret (ed_cmp (r := rEqD K) (op_eqD hr.units) opC_eq (ed_lc [("sign", 1)] rfl sc__law_is_name.nd (wi_seqSK K (ed_var 0)) (fun _ _ _ _ _ => (gt_name 1 sc__law_is_name.nd)) (fun _ _ _ _ _ => (tds_one (td_cmp (r := rOr (rIn K true) (rInS true)) op_ninU opC_nin (ed_var 1) ed_str))) (fun _ _ _ _ _ => ed_int)) (ed_lst ad_nil)))))⟩
theorem sc__law_word : FnScope ["bag", "some"] ["bag"] (fnScope s__law_word) := fnScope_by (by decide +kernel)
theorem ok__law_word {f : Addr} {fd : FuncData} (F : Def K mg "_law_word" s__law_word f fd) (b : Binds K fd ["bag"] []) (T : Txt K mg) (c__law_some : Cal P w K mg base 2 "_law_some" (SpF K mg 2 f__law_some) []) : Cal P w K mg base 3 "_law_word" (SpF K mg 1 f__law_word) [] := by
  refine def_ok (N := ["bag", "some"]) (m := b__law_word) F b sc__law_word rfl fun cdv A outer s H E hr => ⟨_, (sds_cons (sd_set 1 sc__law_word.nd (ed_lst (ad_cons (gd ed_str) (ad_cons (gd ed_str) (ad_cons (gd ed_str) (ad_cons (gd ed_str) (ad_cons (gd ed_str) (ad_cons (gd ed_str) (ad_cons (gd ed_str) (ad_cons (gd ed_str) (ad_cons (gd ed_str) (ad_cons (gd ed_str) ad_nil))))))))))))
      (sds_one (sd_ret (ed_defK K mg c__law_some hr (by decide) (ad_cons (gd_bag 0) (ad_cons (gd (ed_addK K (ed_var 1) (ed_lst (ad_cons (gd ed_str) (ad_cons (gd ed_str) (ad_cons (gd ed_str) (ad_cons (gd ed_str) (ad_cons (gd ed_str) (ad_cons (gd ed_str) (ad_cons (gd ed_str) (ad_cons (gd ed_non) (ad_cons (gd ed_int) (ad_cons (gd ed_bl) (ad_cons (gd (ed_tup (ad_cons (gd ed_str) ad_nil))) (ad_cons (gd (ed_lst (ad_cons (gd ed_str) ad_nil))) ad_nil))))))))))))))) ad_nil))))))⟩
theorem sc__law_bag : FnScope ["script", "cell"] ["script"] (fnScope s__law_bag) := fnScope_by (by decide +kernel)
theorem ok__law_bag {f : Addr} {fd : FuncData} (F : Def K mg "_law_bag" s__law_bag f fd) (b : Binds K fd ["script"] []) (T : Txt K mg) : Cal P w K mg base 1 "_law_bag" (spBag K) [] := by
  refine cal0 (k := 0) F b .nil sc__law_bag (fun vs H Q E h => by obtain ⟨a, ns, e, _⟩ := h; rw [e]; rfl) fun cdv A outer s H vs Q E hr h => ?_
  obtain ⟨a, ns, e, hs, hl, k⟩ := h
  subst e
  refine ⟨_, pss_one (ps_ret (pe_lst (pa_cons pe_int (pa_cons pe_int (pa_cons pe_int (pa_cons (pe_lc (own := [("cell", 1)]) rfl sc__law_bag.nd (pi_list (pe_slice sl_list (pe_var (i := 0) rfl (by first | exact Or.inl rfl | exact Or.inr (Or.inl rfl) | exact Or.inr (Or.inr rfl)) (by decide) (by decide)) po_none (po_some pe_int))) (blkOk_by rfl) (fun _ _ _ _ _ => pg_name (i := 1) sc__law_bag.nd rfl (Or.inl rfl)) (fun _ _ _ _ _ => pts_nil) (fun _ _ _ _ _ => pe_callB call_abs rfl T.abs (by decide +kernel) (pa_cons (pe_var (i := 1) rfl (by first | exact Or.inl rfl | exact Or.inr (Or.inl rfl) | exact Or.inr (Or.inr rfl)) (by decide) (by decide)) pa_nil))) pa_nil)))))), ?_⟩
  exact bag_sem (i := 1) (by show 1 < 2; decide) rfl hs hl k
theorem sc_law : FnScope ["script", "bag", "turn", "word", "number", "least", "most", "row", "thing", "right", "lot", "some", "many", "top", "low", "great", "at", "one"] ["script"] (fnScope s_law) := fnScope_by (by decide +kernel)
theorem ok_law {f : Addr} {fd : FuncData} (F : C8.Fun K "law" "law" s_law f fd) (T : Txt K mg) (c_bag : Cal P w K mg base 1 "_law_bag" (spBag K) []) (c__law_word : Cal P w K mg base 3 "_law_word" (SpF K mg 1 f__law_word) []) (c__law_some : Cal P w K mg base 2 "_law_some" (SpF K mg 2 f__law_some) []) (c__law_take : Cal P w K mg base 1 "_law_take" (SpF K mg 2 f__law_take) []) (c_is_name : Cal P w K mg base 1 "is_name" (SpF K mg 1 f_is_name) []) (c_is_integer : Cal P w K mg base 1 "is_integer" (SpF K mg 1 f_is_integer) []) (c__law_is_name : Cal P w K mg base 1 "_law_is_name" (SpF K mg 1 f__law_is_name) []) (c__law_is_int : Cal P w K mg base 1 "_law_is_int" (SpF K mg 1 f__law_is_int) []) (c__law_alike : Cal P w K mg base 1 "_law_alike" (SpF K mg 2 f__law_alike) []) (c_is_within : Cal P w K mg base 2 "is_within" (SpF K mg 3 f_is_within) []) (c_are_names : Cal P w K mg base 2 "are_names" (SpF K mg 3 f_are_names) []) (c_is_index_lot : Cal P w K mg base 3 "is_index_lot" (SpF K mg 2 f_is_index_lot) []) (c__law_lowest : Cal P w K mg base 2 "_law_lowest" (SpF K mg 2 f__law_lowest) []) (c_is_fraction : Cal P w K mg base 2 "is_fraction" (SpF K mg 1 f_is_fraction) []) (c__law_is_fraction : Cal P w K mg base 2 "_law_is_fraction" (SpF K mg 1 f__law_is_fraction) []) (hm : ∀ ns : List Int, ns.length ≤ 63 → ∃ B, m_law (envL 18 1) (bag0 ns) = .ret (.bool true) B) : FnOk P w K mg base C8.CX0 4 f fd ["script"] (spLaw K) := by
  refine fn0 (k := 3) F sc_law (fun vs H Q E h => by obtain ⟨a, ns, e, _⟩ := h; rw [e]; rfl) fun cdv A outer s H vs Q E hr h => ?_
  obtain ⟨a, ns, e, hs, hl, k⟩ := h
  subst e
  obtain ⟨t, R⟩ : ∃ t, SDs (BX P w K mg base ["script", "bag", "turn", "word", "number", "least", "most", "row", "thing", "right", "lot", "some", "many", "top", "low", "great", "at", "one"] "law" s_law f cdv A outer s H E) W0 ((fnBody s_law).drop 1) t m_law := ⟨_, (sds_cons (sd_for PassesOwn.never rfl (wi_range1 T.range (ad_cons (gd ed_int) ad_nil)) (gt_name 2 sc_law.nd) (sds_cons (sd_par 3 4 rfl sc_law.nd (ad_cons (gd (ed_defK K mg c__law_word hr (by decide) (ad_cons (gd_bag 1) ad_nil))) (ad_cons (gd (ed_defK K mg c__law_some hr (by decide) (ad_cons (gd_bag 1) (ad_cons (gd (ed_lst (ad_cons (gd ed_int) (ad_cons (gd ed_int) (ad_cons (gd (ed_neg ed_int)) (ad_cons (gd ed_int) (ad_cons (gd ed_bl) (ad_cons (gd ed_bl) (ad_cons (gd ed_non) (ad_cons (gd ed_str) (ad_cons (gd (ed_pow ed_int ed_int)) (ad_cons (gd (ed_tup (ad_cons (gd ed_int) ad_nil))) ad_nil)))))))))))) ad_nil)))) ad_nil)))
      (sds_cons (sd_par 5 6 rfl sc_law.nd (ad_cons (gd (ed_sub (ed_defK K mg c__law_take hr (by decide) (ad_cons (gd_bag 1) (ad_cons (gd ed_int) ad_nil))) ed_int)) (ad_cons (gd (ed_defK K mg c__law_take hr (by decide) (ad_cons (gd_bag 1) (ad_cons (gd ed_int) ad_nil)))) ad_nil)))
      (sds_cons (sd_if (td_not (td_truK K (ed_defK K mg c__law_alike hr (by decide) (ad_cons (gd (ed_lst (ad_cons (gd (ed_defK K mg c_is_name hr (by decide) (ad_cons (gd (ed_var 3)) ad_nil))) (ad_cons (gd (ed_defK K mg c_is_integer hr (by decide) (ad_cons (gd (ed_var 4)) ad_nil))) ad_nil)))) (ad_cons (gd (ed_lst (ad_cons (gd (ed_defK K mg c__law_is_name hr (by decide) (ad_cons (gd (ed_var 3)) ad_nil))) (ad_cons (gd (ed_defK K mg c__law_is_int hr (by decide) (ad_cons (gd (ed_var 4)) ad_nil))) ad_nil)))) ad_nil))))) (sds_one (sd_ret ed_bl)) sds_nil)
      (sds_cons (sd_if (td_not (td_truK K (ed_defK K mg c__law_alike hr (by decide) (ad_cons (gd (ed_defK K mg c_is_within hr (by decide) (ad_cons (gd (ed_var 4)) (ad_cons (gd (ed_var 5)) (ad_cons (gd (ed_var 6)) ad_nil))))) (ad_cons (gd (ed_and (ed_defK K mg c__law_is_int hr (by decide) (ad_cons (gd (ed_var 4)) ad_nil)) (ed_one (ed_chain op_le opC_int op_le opC_int (ed_var 5) (ed_var 4) (ed_var 6))))) ad_nil))))) (sds_one (sd_ret ed_bl)) sds_nil)
      (sds_cons (sd_set 7 sc_law.nd (ed_ct (r := rTupleK K) call_tuple_of ca_tuple T.tuple (by decide +kernel) (ad_cons (gd (ed_lc [("at", 16)] rfl sc_law.nd (wi_range1 T.range (ad_cons (gd (ed_defK K mg c__law_take hr (by decide) (ad_cons (gd_bag 1) (ad_cons (gd ed_int) ad_nil)))) ad_nil)) (fun _ _ _ _ _ => (gt_name 16 sc_law.nd)) (fun _ _ _ _ _ => tds_nil) (fun _ _ _ _ _ => (ed_defK K mg c__law_word hr (by decide) (ad_cons (gd_bag 1) ad_nil))))) ad_nil)))
      (sds_cons (sd_for PassesOwn.never rfl (wi_seqSK K (ed_tup (ad_cons (gd (ed_var 7)) (ad_cons (gd (ed_ct (r := rListK K) call_list_of ca_list T.list (by decide +kernel) (ad_cons (gd (ed_var 7)) ad_nil))) (ad_cons (gd ed_non) (ad_cons (gd (ed_addK K (ed_var 7) (ed_var 7))) (ad_cons (gd ed_str) ad_nil))))))) (gt_name 8 sc_law.nd) (sds_cons (sd_set 9 sc_law.nd (ed_and (ed_isiK K kit_tuple T.isinstance T.tuple (ed_var 8) (by decide +kernel)) (ed_one (ed_cmp (r := rEqD K) (op_eqD hr.units) opC_eq (ed_lc [("one", 17)] rfl sc_law.nd (wi_seqSK K (ed_var 8)) (fun _ _ _ _ _ => (gt_name 17 sc_law.nd)) (fun _ _ _ _ _ => (tds_one (td_not (td_truK K (ed_defK K mg c__law_is_name hr (by decide) (ad_cons (gd (ed_var 17)) ad_nil)))))) (fun _ _ _ _ _ => ed_int)) (ed_lst ad_nil)))))
      (sds_cons (sd_set 9 sc_law.nd (ed_and (ed_var 9) (ed_one (ed_cmp (r := rEqD K) (op_eqD hr.units) opC_eq (ed_lc [("at", 16)] rfl sc_law.nd (wi_range1 T.range (ad_cons (gd (ed_ca (r := rLenK K) call_len ca_len T.len (by decide +kernel) (ad_cons (gd (ed_var 8)) ad_nil))) ad_nil)) (fun _ _ _ _ _ => (gt_name 16 sc_law.nd)) (fun _ _ _ _ _ => (tds_one (td_cmp (r := rOr (rIn K false) (rInS false)) op_inU opC_in (ed_ixK K (ed_var 8) (ed_var 16)) (ed_sliceK K (ed_var 8) od_none (od_some (ed_var 16)))))) (fun _ _ _ _ _ => ed_int)) (ed_lst ad_nil)))))
      (sds_cons (sd_set 9 sc_law.nd (ed_and (ed_var 9) (ed_one (ed_chain op_le opC_int op_le opC_int (ed_var 5) (ed_ca (r := rLenK K) call_len ca_len T.len (by decide +kernel) (ad_cons (gd (ed_var 8)) ad_nil)) (ed_var 6)))))
      (sds_one (sd_if (td_not (td_truK K (ed_defK K mg c__law_alike hr (by decide) (ad_cons (gd (ed_defK K mg c_are_names hr (by decide) (ad_cons (gd (ed_var 8)) (ad_cons (gd (ed_var 5)) (ad_cons (gd (ed_var 6)) ad_nil))))) (ad_cons (gd (ed_var 9)) ad_nil))))) (sds_one (sd_ret ed_bl)) sds_nil))))))
      (sds_cons (sd_set 10 sc_law.nd (ed_ct (r := rTupleK K) call_tuple_of ca_tuple T.tuple (by decide +kernel) (ad_cons (gd (ed_srtSetK K w rfl T.sorted T.set (ed_lc [("at", 16)] rfl sc_law.nd (wi_range1 T.range (ad_cons (gd (ed_defK K mg c__law_take hr (by decide) (ad_cons (gd_bag 1) (ad_cons (gd ed_int) ad_nil)))) ad_nil)) (fun _ _ _ _ _ => (gt_name 16 sc_law.nd)) (fun _ _ _ _ _ => tds_nil) (fun _ _ _ _ _ => (ed_defK K mg c__law_take hr (by decide) (ad_cons (gd_bag 1) (ad_cons (gd ed_int) ad_nil))))))) ad_nil)))
      (sds_cons (sd_set 11 sc_law.nd (ed_ct (r := rTupleK K) call_tuple_of ca_tuple T.tuple (by decide +kernel) (ad_cons (gd (ed_lc [("at", 16)] rfl sc_law.nd (wi_range1 T.range (ad_cons (gd (ed_defK K mg c__law_take hr (by decide) (ad_cons (gd_bag 1) (ad_cons (gd ed_int) ad_nil)))) ad_nil)) (fun _ _ _ _ _ => (gt_name 16 sc_law.nd)) (fun _ _ _ _ _ => tds_nil) (fun _ _ _ _ _ => (ed_defK K mg c__law_some hr (by decide) (ad_cons (gd_bag 1) (ad_cons (gd (ed_lst (ad_cons (gd ed_int) (ad_cons (gd ed_int) (ad_cons (gd ed_int) (ad_cons (gd ed_int) (ad_cons (gd (ed_neg ed_int)) (ad_cons (gd ed_bl) (ad_cons (gd ed_non) (ad_cons (gd ed_str) (ad_cons (gd (ed_pow ed_int ed_int)) ad_nil))))))))))) ad_nil)))))) ad_nil)))
      (sds_cons (sd_for PassesOwn.never rfl (wi_seqSK K (ed_tup (ad_cons (gd (ed_var 11)) (ad_cons (gd (ed_var 10)) (ad_cons (gd (ed_ct (r := rListK K) call_list_of ca_list T.list (by decide +kernel) (ad_cons (gd (ed_var 10)) ad_nil))) (ad_cons (gd (ed_revK K (ed_var 10))) (ad_cons (gd (ed_tup ad_nil)) (ad_cons (gd ed_non) (ad_cons (gd ed_int) ad_nil))))))))) (gt_name 8 sc_law.nd) (sds_cons (sd_set 12 sc_law.nd (ed_defK K mg c__law_take hr (by decide) (ad_cons (gd_bag 1) (ad_cons (gd ed_int) ad_nil))))
      (sds_cons (sd_set 9 sc_law.nd (ed_and (ed_isiK K kit_tuple T.isinstance T.tuple (ed_var 8) (by decide +kernel)) (ed_and (ed_cmp (r := rNeD K) (op_neD hr.units) opC_ne (ed_var 8) (ed_tup ad_nil)) (ed_one (ed_cmp (r := rEqD K) (op_eqD hr.units) opC_eq (ed_lc [("one", 17)] rfl sc_law.nd (wi_seqSK K (ed_var 8)) (fun _ _ _ _ _ => (gt_name 17 sc_law.nd)) (fun _ _ _ _ _ => (tds_one (td_not (td_truK K (ed_defK K mg c__law_is_int hr (by decide) (ad_cons (gd (ed_var 17)) ad_nil)))))) (fun _ _ _ _ _ => ed_int)) (ed_lst ad_nil))))))
      (sds_cons (sd_set 9 sc_law.nd (ed_and (ed_var 9) (ed_and (ed_cmp (r := rEqD K) (op_eqD hr.units) opC_eq (ed_ct (r := rListK K) call_list_of ca_list T.list (by decide +kernel) (ad_cons (gd (ed_var 8)) ad_nil)) (ed_srtSetK K w rfl T.sorted T.set (ed_var 8))) (ed_and (ed_cmp op_le opC_int ed_int (ed_ixK K (ed_var 8) ed_int)) (ed_one (ed_cmp op_lt opC_int (ed_ixK K (ed_var 8) (ed_neg ed_int)) (ed_var 12)))))))
      (sds_one (sd_if (td_not (td_truK K (ed_defK K mg c__law_alike hr (by decide) (ad_cons (gd (ed_defK K mg c_is_index_lot hr (by decide) (ad_cons (gd (ed_var 8)) (ad_cons (gd (ed_var 12)) ad_nil)))) (ad_cons (gd (ed_var 9)) ad_nil))))) (sds_one (sd_ret ed_bl)) sds_nil))))))
      (sds_cons (sd_par 13 14 rfl sc_law.nd (ad_cons (gd (ed_sub (ed_defK K mg c__law_take hr (by decide) (ad_cons (gd_bag 1) (ad_cons (gd ed_int) ad_nil))) ed_int)) (ad_cons (gd (ed_sub (ed_defK K mg c__law_take hr (by decide) (ad_cons (gd_bag 1) (ad_cons (gd ed_int) ad_nil))) ed_int)) ad_nil)))
      (sds_cons (sd_set 15 sc_law.nd (ed_defK K mg c__law_lowest hr (by decide) (ad_cons (gd (ed_addK K (ed_pow ed_int ed_int) (ed_defK K mg c__law_take hr (by decide) (ad_cons (gd_bag 1) (ad_cons (gd ed_int) ad_nil))))) (ad_cons (gd (ed_addK K ed_int (ed_defK K mg c__law_take hr (by decide) (ad_cons (gd_bag 1) (ad_cons (gd (ed_pow ed_int ed_int)) ad_nil))))) ad_nil))))
      (sds_one (sd_for PassesOwn.never rfl (wi_seqSK K (ed_tup (ad_cons (gd (ed_tup (ad_cons (gd (ed_var 13)) (ad_cons (gd (ed_var 14)) ad_nil)))) (ad_cons (gd (ed_lst (ad_cons (gd (ed_var 13)) (ad_cons (gd (ed_var 14)) ad_nil)))) (ad_cons (gd (ed_tup (ad_cons (gd (ed_var 13)) ad_nil))) (ad_cons (gd (ed_tup (ad_cons (gd (ed_var 13)) (ad_cons (gd (ed_var 14)) (ad_cons (gd ed_int) ad_nil))))) (ad_cons (gd ed_non) (ad_cons (gd ed_int) (ad_cons (gd (ed_tup (ad_cons (gd ed_bl) (ad_cons (gd ed_int) ad_nil)))) (ad_cons (gd (ed_tup (ad_cons (gd ed_int) (ad_cons (gd ed_bl) ad_nil)))) (ad_cons (gd (ed_tup (ad_cons (gd ed_str) (ad_cons (gd ed_int) ad_nil)))) (ad_cons (gd (ed_var 15)) (ad_cons (gd (ed_tup (ad_cons (gd ed_int) (ad_cons (gd ed_int) ad_nil)))) (ad_cons (gd (ed_tup (ad_cons (gd ed_int) (ad_cons (gd ed_int) ad_nil)))) (ad_cons (gd (ed_tup (ad_cons (gd ed_int) (ad_cons (gd ed_int) ad_nil)))) ad_nil))))))))))))))) (gt_name 8 sc_law.nd) (sds_one (sd_if (td_not (td_truK K (ed_defK K mg c__law_alike hr (by decide) (ad_cons (gd (ed_defK K mg c_is_fraction hr (by decide) (ad_cons (gd (ed_var 8)) ad_nil))) (ad_cons (gd (ed_defK K mg c__law_is_fraction hr (by decide) (ad_cons (gd (ed_var 8)) ad_nil))) ad_nil))))) (sds_one (sd_ret ed_bl)) sds_nil))))))))))))))))
      (sds_one (sd_ret ed_bl)))⟩
  refine ⟨_, pss_cons (ps_set (i := 1) sc_law.nd rfl (by first | exact Or.inl rfl | exact Or.inr rfl) (pe_c c_bag hr (by decide) rfl (pa_cons (pe_var (i := 0) rfl (by first | exact Or.inl rfl | exact Or.inr (Or.inl rfl) | exact Or.inr (Or.inr rfl)) (by decide) (by decide)) pa_nil))) R.pe, ?_⟩
  exact law_sem (n := 18) (ib := 1) R rfl (by decide) rfl hs hl (hm ns hl) k _
end
theorem all_mk {l : PySem.W.OpenLaw} {w : World} {K : PySem.W.Frag} {h : Heap} {mg : Str → Option Value} {fa : Addr} (X : K.In h) (G : h.Ns mainGlobals mg) (hfa : mg "law" = some (.ref fa))
  (hm : ∀ ns : List Int, ns.length ≤ 63 → ∃ B, m_law (envL 18 1) (bag0 ns) = .ret (.bool true) B)
  {g0 : Addr} {oc0 kV0 dc0 pm0 cd0 ct0 : Value} {od0 an0 : Option Addr} {sl0 : Array (Option Value)}
  {g1 : Addr} {oc1 kV1 dc1 pm1 cd1 ct1 : Value} {od1 an1 : Option Addr} {sl1 : Array (Option Value)}
  {g2 : Addr} {oc2 kV2 dc2 pm2 cd2 ct2 : Value} {od2 an2 : Option Addr} {sl2 : Array (Option Value)}
  {g3 : Addr} {oc3 kV3 dc3 pm3 cd3 ct3 : Value} {od3 an3 : Option Addr} {sl3 : Array (Option Value)}
  {g4 : Addr} {oc4 kV4 dc4 pm4 cd4 ct4 : Value} {od4 an4 : Option Addr} {sl4 : Array (Option Value)}
  {g5 : Addr} {oc5 kV5 dc5 pm5 cd5 ct5 : Value} {od5 an5 : Option Addr} {sl5 : Array (Option Value)}
  {g6 : Addr} {oc6 kV6 dc6 pm6 cd6 ct6 : Value} {od6 an6 : Option Addr} {sl6 : Array (Option Value)}
  {g7 : Addr} {oc7 kV7 dc7 pm7 cd7 ct7 : Value} {od7 an7 : Option Addr} {sl7 : Array (Option Value)}
  {g8 : Addr} {oc8 kV8 dc8 pm8 cd8 ct8 : Value} {od8 an8 : Option Addr} {sl8 : Array (Option Value)}
  {g9 : Addr} {oc9 kV9 dc9 pm9 cd9 ct9 : Value} {od9 an9 : Option Addr} {sl9 : Array (Option Value)}
  {g10 : Addr} {oc10 kV10 dc10 pm10 cd10 ct10 : Value} {od10 an10 : Option Addr} {sl10 : Array (Option Value)}
  {g11 : Addr} {oc11 kV11 dc11 pm11 cd11 ct11 : Value} {od11 an11 : Option Addr} {sl11 : Array (Option Value)}
  {g12 : Addr} {oc12 kV12 dc12 pm12 cd12 ct12 : Value} {od12 an12 : Option Addr} {sl12 : Array (Option Value)}
  {g13 : Addr} {oc13 kV13 dc13 pm13 cd13 ct13 : Value} {od13 an13 : Option Addr} {sl13 : Array (Option Value)}
  {g14 : Addr} {oc14 kV14 dc14 pm14 cd14 ct14 : Value} {od14 an14 : Option Addr} {sl14 : Array (Option Value)}
  {g15 : Addr} {oc15 kV15 dc15 pm15 cd15 ct15 : Value} {od15 an15 : Option Addr} {sl15 : Array (Option Value)}
  {g16 : Addr} {oc16 kV16 dc16 pm16 cd16 ct16 : Value} {od16 an16 : Option Addr} {sl16 : Array (Option Value)}
  {g17 : Addr} {oc17 kV17 dc17 pm17 cd17 ct17 : Value} {od17 an17 : Option Addr} {sl17 : Array (Option Value)}
  {t_LETTERS : Tok}
  {t_MOST_NAME : Tok}
  {t_RESERVED_0 : Tok}
  {t_RESERVED_1 : Tok}
  {t_RESERVED_2 : Tok}
  {t_RESERVED_3 : Tok}
  {r_RESERVED : Addr} {dd_RESERVED : Option Addr} {n_RESERVED : Nat} {sl_RESERVED : Array (Option Value)}
  (a0 : PySem.W.nsIn K mainGlobals "is_integer" = some (some (.ref g0))) (l0 : K.lookup g0 = some ⟨oc0, od0, .func (PySem.W.fnOf "is_integer" "is_integer" (fnArgs s_is_integer) (fnBody s_is_integer) (fnScope s_is_integer) .none kV0 dc0 pm0 an0 cd0 ct0), sl0⟩) (c0 : PySem.W.codeIn K cd0 "is_integer" = true) (k0 : PySem.W.keepIn K (.ref g0) = true)
  (a1 : PySem.W.nsIn K mainGlobals "is_within" = some (some (.ref g1))) (l1 : K.lookup g1 = some ⟨oc1, od1, .func (PySem.W.fnOf "is_within" "is_within" (fnArgs s_is_within) (fnBody s_is_within) (fnScope s_is_within) .none kV1 dc1 pm1 an1 cd1 ct1), sl1⟩) (c1 : PySem.W.codeIn K cd1 "is_within" = true) (k1 : PySem.W.keepIn K (.ref g1) = true)
  (a2 : PySem.W.nsIn K mainGlobals "is_name" = some (some (.ref g2))) (l2 : K.lookup g2 = some ⟨oc2, od2, .func (PySem.W.fnOf "is_name" "is_name" (fnArgs s_is_name) (fnBody s_is_name) (fnScope s_is_name) .none kV2 dc2 pm2 an2 cd2 ct2), sl2⟩) (c2 : PySem.W.codeIn K cd2 "is_name" = true) (k2 : PySem.W.keepIn K (.ref g2) = true)
  (a3 : PySem.W.nsIn K mainGlobals "are_names" = some (some (.ref g3))) (l3 : K.lookup g3 = some ⟨oc3, od3, .func (PySem.W.fnOf "are_names" "are_names" (fnArgs s_are_names) (fnBody s_are_names) (fnScope s_are_names) .none kV3 dc3 pm3 an3 cd3 ct3), sl3⟩) (c3 : PySem.W.codeIn K cd3 "are_names" = true) (k3 : PySem.W.keepIn K (.ref g3) = true)
  (a4 : PySem.W.nsIn K mainGlobals "is_index_lot" = some (some (.ref g4))) (l4 : K.lookup g4 = some ⟨oc4, od4, .func (PySem.W.fnOf "is_index_lot" "is_index_lot" (fnArgs s_is_index_lot) (fnBody s_is_index_lot) (fnScope s_is_index_lot) .none kV4 dc4 pm4 an4 cd4 ct4), sl4⟩) (c4 : PySem.W.codeIn K cd4 "is_index_lot" = true) (k4 : PySem.W.keepIn K (.ref g4) = true)
  (a5 : PySem.W.nsIn K mainGlobals "divisor_of" = some (some (.ref g5))) (l5 : K.lookup g5 = some ⟨oc5, od5, .func (PySem.W.fnOf "divisor_of" "divisor_of" (fnArgs s_divisor_of) (fnBody s_divisor_of) (fnScope s_divisor_of) .none kV5 dc5 pm5 an5 cd5 ct5), sl5⟩) (c5 : PySem.W.codeIn K cd5 "divisor_of" = true) (k5 : PySem.W.keepIn K (.ref g5) = true)
  (a6 : PySem.W.nsIn K mainGlobals "is_fraction" = some (some (.ref g6))) (l6 : K.lookup g6 = some ⟨oc6, od6, .func (PySem.W.fnOf "is_fraction" "is_fraction" (fnArgs s_is_fraction) (fnBody s_is_fraction) (fnScope s_is_fraction) .none kV6 dc6 pm6 an6 cd6 ct6), sl6⟩) (c6 : PySem.W.codeIn K cd6 "is_fraction" = true) (k6 : PySem.W.keepIn K (.ref g6) = true)
  (a7 : PySem.W.nsIn K mainGlobals "_law_take" = some (some (.ref g7))) (l7 : K.lookup g7 = some ⟨oc7, od7, .func (PySem.W.fnOf "_law_take" "_law_take" (fnArgs s__law_take) (fnBody s__law_take) (fnScope s__law_take) .none kV7 dc7 pm7 an7 cd7 ct7), sl7⟩) (c7 : PySem.W.codeIn K cd7 "_law_take" = true) (k7 : PySem.W.keepIn K (.ref g7) = true)
  (a8 : PySem.W.nsIn K mainGlobals "_law_some" = some (some (.ref g8))) (l8 : K.lookup g8 = some ⟨oc8, od8, .func (PySem.W.fnOf "_law_some" "_law_some" (fnArgs s__law_some) (fnBody s__law_some) (fnScope s__law_some) .none kV8 dc8 pm8 an8 cd8 ct8), sl8⟩) (c8 : PySem.W.codeIn K cd8 "_law_some" = true) (k8 : PySem.W.keepIn K (.ref g8) = true)
  (a9 : PySem.W.nsIn K mainGlobals "_law_alike" = some (some (.ref g9))) (l9 : K.lookup g9 = some ⟨oc9, od9, .func (PySem.W.fnOf "_law_alike" "_law_alike" (fnArgs s__law_alike) (fnBody s__law_alike) (fnScope s__law_alike) .none kV9 dc9 pm9 an9 cd9 ct9), sl9⟩) (c9 : PySem.W.codeIn K cd9 "_law_alike" = true) (k9 : PySem.W.keepIn K (.ref g9) = true)
  (a10 : PySem.W.nsIn K mainGlobals "_law_is_int" = some (some (.ref g10))) (l10 : K.lookup g10 = some ⟨oc10, od10, .func (PySem.W.fnOf "_law_is_int" "_law_is_int" (fnArgs s__law_is_int) (fnBody s__law_is_int) (fnScope s__law_is_int) .none kV10 dc10 pm10 an10 cd10 ct10), sl10⟩) (c10 : PySem.W.codeIn K cd10 "_law_is_int" = true) (k10 : PySem.W.keepIn K (.ref g10) = true)
  (a11 : PySem.W.nsIn K mainGlobals "_law_divisor" = some (some (.ref g11))) (l11 : K.lookup g11 = some ⟨oc11, od11, .func (PySem.W.fnOf "_law_divisor" "_law_divisor" (fnArgs s__law_divisor) (fnBody s__law_divisor) (fnScope s__law_divisor) .none kV11 dc11 pm11 an11 cd11 ct11), sl11⟩) (c11 : PySem.W.codeIn K cd11 "_law_divisor" = true) (k11 : PySem.W.keepIn K (.ref g11) = true)
  (a12 : PySem.W.nsIn K mainGlobals "_law_lowest" = some (some (.ref g12))) (l12 : K.lookup g12 = some ⟨oc12, od12, .func (PySem.W.fnOf "_law_lowest" "_law_lowest" (fnArgs s__law_lowest) (fnBody s__law_lowest) (fnScope s__law_lowest) .none kV12 dc12 pm12 an12 cd12 ct12), sl12⟩) (c12 : PySem.W.codeIn K cd12 "_law_lowest" = true) (k12 : PySem.W.keepIn K (.ref g12) = true)
  (a13 : PySem.W.nsIn K mainGlobals "_law_is_fraction" = some (some (.ref g13))) (l13 : K.lookup g13 = some ⟨oc13, od13, .func (PySem.W.fnOf "_law_is_fraction" "_law_is_fraction" (fnArgs s__law_is_fraction) (fnBody s__law_is_fraction) (fnScope s__law_is_fraction) .none kV13 dc13 pm13 an13 cd13 ct13), sl13⟩) (c13 : PySem.W.codeIn K cd13 "_law_is_fraction" = true) (k13 : PySem.W.keepIn K (.ref g13) = true)
  (a14 : PySem.W.nsIn K mainGlobals "_law_is_name" = some (some (.ref g14))) (l14 : K.lookup g14 = some ⟨oc14, od14, .func (PySem.W.fnOf "_law_is_name" "_law_is_name" (fnArgs s__law_is_name) (fnBody s__law_is_name) (fnScope s__law_is_name) .none kV14 dc14 pm14 an14 cd14 ct14), sl14⟩) (c14 : PySem.W.codeIn K cd14 "_law_is_name" = true) (k14 : PySem.W.keepIn K (.ref g14) = true)
  (a15 : PySem.W.nsIn K mainGlobals "_law_word" = some (some (.ref g15))) (l15 : K.lookup g15 = some ⟨oc15, od15, .func (PySem.W.fnOf "_law_word" "_law_word" (fnArgs s__law_word) (fnBody s__law_word) (fnScope s__law_word) .none kV15 dc15 pm15 an15 cd15 ct15), sl15⟩) (c15 : PySem.W.codeIn K cd15 "_law_word" = true) (k15 : PySem.W.keepIn K (.ref g15) = true)
  (a16 : PySem.W.nsIn K mainGlobals "_law_bag" = some (some (.ref g16))) (l16 : K.lookup g16 = some ⟨oc16, od16, .func (PySem.W.fnOf "_law_bag" "_law_bag" (fnArgs s__law_bag) (fnBody s__law_bag) (fnScope s__law_bag) .none kV16 dc16 pm16 an16 cd16 ct16), sl16⟩) (c16 : PySem.W.codeIn K cd16 "_law_bag" = true) (k16 : PySem.W.keepIn K (.ref g16) = true)
  (a17 : PySem.W.nsIn K mainGlobals "law" = some (some (.ref g17))) (l17 : K.lookup g17 = some ⟨oc17, od17, .func (PySem.W.fnOf "law" "law" (fnArgs s_law) (fnBody s_law) (fnScope s_law) .none kV17 dc17 pm17 an17 cd17 ct17), sl17⟩) (c17 : PySem.W.codeIn K cd17 "law" = true) (k17 : PySem.W.keepIn K (.ref g17) = true)
  (z_abs : PySem.W.nsIn K mainGlobals "abs" = some none)
  (z_all : PySem.W.nsIn K mainGlobals "all" = some none)
  (z_bool : PySem.W.nsIn K mainGlobals "bool" = some none)
  (z_int : PySem.W.nsIn K mainGlobals "int" = some none)
  (z_isinstance : PySem.W.nsIn K mainGlobals "isinstance" = some none)
  (z_len : PySem.W.nsIn K mainGlobals "len" = some none)
  (z_list : PySem.W.nsIn K mainGlobals "list" = some none)
  (z_range : PySem.W.nsIn K mainGlobals "range" = some none)
  (z_set : PySem.W.nsIn K mainGlobals "set" = some none)
  (z_sorted : PySem.W.nsIn K mainGlobals "sorted" = some none)
  (z_str : PySem.W.nsIn K mainGlobals "str" = some none)
  (z_tuple : PySem.W.nsIn K mainGlobals "tuple" = some none)
  (z_zip : PySem.W.nsIn K mainGlobals "zip" = some none)
  (q_LETTERS : PySem.W.nsIn K mainGlobals "LETTERS" = some (some (.str "abcdefghijklmnopqrstuvwxyz" t_LETTERS)))
  (q_MOST_NAME : PySem.W.nsIn K mainGlobals "MOST_NAME" = some (some (.int 8 t_MOST_NAME)))
  (q_RESERVED : PySem.W.nsIn K mainGlobals "RESERVED" = some (some (.ref r_RESERVED))) (p_RESERVED : K.lookup r_RESERVED = some ⟨.type "tuple", dd_RESERVED, .seq #[.str "band" t_RESERVED_0, .str "none" t_RESERVED_1, .str "pattern" t_RESERVED_2, .str "standing" t_RESERVED_3] n_RESERVED, sl_RESERVED⟩) :
  ∃ fd : FuncData, (∀ (s : Shared) (v : Value), BindsTo s fd ⟨[v], []⟩ [("script", v)]) ∧ ∀ base : Heap, K.In base → base.Ns mainGlobals mg → FnOk l.prog w K mg base C8.CX0 4 fa fd ["script"] (spLaw K) := by
  have e := hfa.symm.trans (PySem.W.mg_of X G a17)
  cases e
  have T : Txt K mg := ⟨PySem.W.mg_none_of X G z_abs, PySem.W.mg_none_of X G z_all, PySem.W.mg_none_of X G z_bool, PySem.W.mg_none_of X G z_int, PySem.W.mg_none_of X G z_isinstance, PySem.W.mg_none_of X G z_len, PySem.W.mg_none_of X G z_list, PySem.W.mg_none_of X G z_range, PySem.W.mg_none_of X G z_set, PySem.W.mg_none_of X G z_sorted, PySem.W.mg_none_of X G z_str, PySem.W.mg_none_of X G z_tuple, PySem.W.mg_none_of X G z_zip, ⟨⟨_, PySem.W.mg_of X G q_LETTERS, ⟨t_LETTERS, rfl⟩⟩, fun _ => .str _⟩, ⟨⟨_, PySem.W.mg_of X G q_MOST_NAME, ⟨t_MOST_NAME, rfl⟩⟩, fun _ => .int _⟩, ⟨r_RESERVED, ⟨_, PySem.W.mg_of X G q_RESERVED, rfl⟩, fun _ => .tup (xs := [V.str "band", V.str "none", V.str "pattern", V.str "standing"]) (.inr ⟨_, _, n_RESERVED, p_RESERVED, rfl, rfl, (by show 4 ≤ sizeLine; decide), (.cons ⟨t_RESERVED_0, rfl⟩ (.cons ⟨t_RESERVED_1, rfl⟩ (.cons ⟨t_RESERVED_2, rfl⟩ (.cons ⟨t_RESERVED_3, rfl⟩ .nil))))⟩) (DRs.cons (.str _) (DRs.cons (.str _) (DRs.cons (.str _) (DRs.cons (.str _) DRs.nil))))⟩⟩
  have F0 : Def K mg "is_integer" s_is_integer g0 _ := ⟨⟨_, _, _, _, _, _, _, _, _, _, rfl, l0, c0⟩, PySem.W.mg_of X G a0, k0⟩
  have b0 := F0.fn.binds rfl (ps := ["thing"]) fun _ _ _ _ _ _ us hl => match us, hl with | [_], _ => rfl
  have F1 : Def K mg "is_within" s_is_within g1 _ := ⟨⟨_, _, _, _, _, _, _, _, _, _, rfl, l1, c1⟩, PySem.W.mg_of X G a1, k1⟩
  have b1 := F1.fn.binds rfl (ps := ["thing", "least", "most"]) fun _ _ _ _ _ _ us hl => match us, hl with | [_, _, _], _ => rfl
  have F2 : Def K mg "is_name" s_is_name g2 _ := ⟨⟨_, _, _, _, _, _, _, _, _, _, rfl, l2, c2⟩, PySem.W.mg_of X G a2, k2⟩
  have b2 := F2.fn.binds rfl (ps := ["thing"]) fun _ _ _ _ _ _ us hl => match us, hl with | [_], _ => rfl
  have F3 : Def K mg "are_names" s_are_names g3 _ := ⟨⟨_, _, _, _, _, _, _, _, _, _, rfl, l3, c3⟩, PySem.W.mg_of X G a3, k3⟩
  have b3 := F3.fn.binds rfl (ps := ["thing", "least", "most"]) fun _ _ _ _ _ _ us hl => match us, hl with | [_, _, _], _ => rfl
  have F4 : Def K mg "is_index_lot" s_is_index_lot g4 _ := ⟨⟨_, _, _, _, _, _, _, _, _, _, rfl, l4, c4⟩, PySem.W.mg_of X G a4, k4⟩
  have b4 := F4.fn.binds rfl (ps := ["thing", "many"]) fun _ _ _ _ _ _ us hl => match us, hl with | [_, _], _ => rfl
  have F5 : Def K mg "divisor_of" s_divisor_of g5 _ := ⟨⟨_, _, _, _, _, _, _, _, _, _, rfl, l5, c5⟩, PySem.W.mg_of X G a5, k5⟩
  have b5 := F5.fn.binds rfl (ps := ["one", "other"]) fun _ _ _ _ _ _ us hl => match us, hl with | [_, _], _ => rfl
  have F6 : Def K mg "is_fraction" s_is_fraction g6 _ := ⟨⟨_, _, _, _, _, _, _, _, _, _, rfl, l6, c6⟩, PySem.W.mg_of X G a6, k6⟩
  have b6 := F6.fn.binds rfl (ps := ["thing"]) fun _ _ _ _ _ _ us hl => match us, hl with | [_], _ => rfl
  have F7 : Def K mg "_law_take" s__law_take g7 _ := ⟨⟨_, _, _, _, _, _, _, _, _, _, rfl, l7, c7⟩, PySem.W.mg_of X G a7, k7⟩
  have b7 := F7.fn.binds rfl (ps := ["bag", "many"]) fun _ _ _ _ _ _ us hl => match us, hl with | [_, _], _ => rfl
  have F8 : Def K mg "_law_some" s__law_some g8 _ := ⟨⟨_, _, _, _, _, _, _, _, _, _, rfl, l8, c8⟩, PySem.W.mg_of X G a8, k8⟩
  have b8 := F8.fn.binds rfl (ps := ["bag", "things"]) fun _ _ _ _ _ _ us hl => match us, hl with | [_, _], _ => rfl
  have F9 : Def K mg "_law_alike" s__law_alike g9 _ := ⟨⟨_, _, _, _, _, _, _, _, _, _, rfl, l9, c9⟩, PySem.W.mg_of X G a9, k9⟩
  have b9 := F9.fn.binds rfl (ps := ["found", "due"]) fun _ _ _ _ _ _ us hl => match us, hl with | [_, _], _ => rfl
  have F10 : Def K mg "_law_is_int" s__law_is_int g10 _ := ⟨⟨_, _, _, _, _, _, _, _, _, _, rfl, l10, c10⟩, PySem.W.mg_of X G a10, k10⟩
  have b10 := F10.fn.binds rfl (ps := ["thing"]) fun _ _ _ _ _ _ us hl => match us, hl with | [_], _ => rfl
  have F11 : Def K mg "_law_divisor" s__law_divisor g11 _ := ⟨⟨_, _, _, _, _, _, _, _, _, _, rfl, l11, c11⟩, PySem.W.mg_of X G a11, k11⟩
  have b11 := F11.fn.binds rfl (ps := ["one", "other"]) fun _ _ _ _ _ _ us hl => match us, hl with | [_, _], _ => rfl
  have F12 : Def K mg "_law_lowest" s__law_lowest g12 _ := ⟨⟨_, _, _, _, _, _, _, _, _, _, rfl, l12, c12⟩, PySem.W.mg_of X G a12, k12⟩
  have b12 := F12.fn.binds rfl (ps := ["top", "low"]) fun _ _ _ _ _ _ us hl => match us, hl with | [_, _], _ => rfl
  have F13 : Def K mg "_law_is_fraction" s__law_is_fraction g13 _ := ⟨⟨_, _, _, _, _, _, _, _, _, _, rfl, l13, c13⟩, PySem.W.mg_of X G a13, k13⟩
  have b13 := F13.fn.binds rfl (ps := ["thing"]) fun _ _ _ _ _ _ us hl => match us, hl with | [_], _ => rfl
  have F14 : Def K mg "_law_is_name" s__law_is_name g14 _ := ⟨⟨_, _, _, _, _, _, _, _, _, _, rfl, l14, c14⟩, PySem.W.mg_of X G a14, k14⟩
  have b14 := F14.fn.binds rfl (ps := ["thing"]) fun _ _ _ _ _ _ us hl => match us, hl with | [_], _ => rfl
  have F15 : Def K mg "_law_word" s__law_word g15 _ := ⟨⟨_, _, _, _, _, _, _, _, _, _, rfl, l15, c15⟩, PySem.W.mg_of X G a15, k15⟩
  have b15 := F15.fn.binds rfl (ps := ["bag"]) fun _ _ _ _ _ _ us hl => match us, hl with | [_], _ => rfl
  have F16 : Def K mg "_law_bag" s__law_bag g16 _ := ⟨⟨_, _, _, _, _, _, _, _, _, _, rfl, l16, c16⟩, PySem.W.mg_of X G a16, k16⟩
  have b16 := F16.fn.binds rfl (ps := ["script"]) fun _ _ _ _ _ _ us hl => match us, hl with | [_], _ => rfl
  have FL : C8.Fun K "law" "law" s_law _ _ := ⟨_, _, _, _, _, _, _, _, _, _, rfl, l17, c17⟩
  refine ⟨PySem.W.fnOf "law" "law" (fnArgs s_law) (fnBody s_law) (fnScope s_law) .none kV17 dc17 pm17 an17 cd17 ct17, fun s v => .of_eq rfl, fun base _ _ => ?_⟩
  have c_is_integer := ok_is_integer (P := l.prog) (w := w) (base := base) F0 b0 T 
  have c_is_within := ok_is_within (P := l.prog) (w := w) (base := base) F1 b1 T c_is_integer
  have c_is_name := ok_is_name (P := l.prog) (w := w) (base := base) F2 b2 T 
  have c_are_names := ok_are_names (P := l.prog) (w := w) (base := base) F3 b3 T c_is_name
  have c_is_index_lot := ok_is_index_lot (P := l.prog) (w := w) (base := base) F4 b4 T c_is_within
  have c_divisor_of := ok_divisor_of (P := l.prog) (w := w) (base := base) F5 b5 T 
  have c_is_fraction := ok_is_fraction (P := l.prog) (w := w) (base := base) F6 b6 T c_is_integer c_divisor_of
  have c__law_take := ok__law_take (P := l.prog) (w := w) (base := base) F7 b7 T 
  have c__law_some := ok__law_some (P := l.prog) (w := w) (base := base) F8 b8 T c__law_take
  have c__law_alike := ok__law_alike (P := l.prog) (w := w) (base := base) F9 b9 T 
  have c__law_is_int := ok__law_is_int (P := l.prog) (w := w) (base := base) F10 b10 T 
  have c__law_divisor := ok__law_divisor (P := l.prog) (w := w) (base := base) F11 b11 T 
  have c__law_lowest := ok__law_lowest (P := l.prog) (w := w) (base := base) F12 b12 T c__law_divisor
  have c__law_is_fraction := ok__law_is_fraction (P := l.prog) (w := w) (base := base) F13 b13 T c__law_is_int c__law_divisor
  have c__law_is_name := ok__law_is_name (P := l.prog) (w := w) (base := base) F14 b14 T 
  have c__law_word := ok__law_word (P := l.prog) (w := w) (base := base) F15 b15 T c__law_some
  have c_bag := ok__law_bag (P := l.prog) (w := w) (base := base) F16 b16 T
  exact ok_law FL T c_bag c__law_word c__law_some c__law_take c_is_name c_is_integer c__law_is_name c__law_is_int c__law_alike c_is_within c_are_names c_is_index_lot c__law_lowest c_is_fraction c__law_is_fraction hm
theorem walk {l : PySem.W.OpenLaw} {q : Program} {loose : List Str} {XP : (Str → Option Value) → Heap → Prop} {YP : World → Heap → Prop} {d : DefRec} {K : Params → PySem.W.Frag} (hn : l.most = some 63) (hdf : d.params.defaults = [])
    (hY : ∀ (w : World) (h : Heap), YP w h → (K w.params).In h)
    (F : ∀ (w : World) (mg : Str → Option Value) (fa : Addr) (h : Heap), (K w.params).In h → h.Ns mainGlobals mg → mg d.name = some (.ref fa) →
      ∃ fd : FuncData, (∀ (s : Shared) (u : Value), BindsTo s fd ⟨[u], []⟩ [("script", u)]) ∧ ∀ base : Heap, (K w.params).In base → base.Ns mainGlobals mg → FnOk l.prog w (K w.params) mg base C8.CX0 4 fa fd ["script"] (spLaw (K w.params))) :
    PySem.W.WalkO q loose XP YP l.row.toRowW d [] (fun f vs => PySem.call f vs) :=
  L2.walk_of (n := 63) (k := 4) (x := "script") (CX := fun _ => C8.CX0) (sp := fun w => spLaw (K w.params)) hn (by decide) hdf ⟨rfl, by decide, by decide⟩ hY F (fun _ _ a ns hl _ hS => ⟨a, ns, rfl, hS, hl, fun _ => rfl⟩) fun _ _ _ _ _ z => z

end DL
open PySem PySem.W PyProof.Rows in
set_option maxRecDepth 100000 in
set_option maxHeartbeats 0 in
theorem PySem.Challenge.cw_stillsums_k01_forms_of_any_values_holds : PySem.Challenge.rw_stillsums_k01_forms_of_any_values.Holds := by
  w_on; o_law; k_head; (case hw => w_witness2)
  k_fill
  refine DL.walk (l := PySem.Challenge.rw_stillsums_k01_forms_of_any_values) rfl rfl (fun w h Y => PySem.W.kIn_of Y) ?F
  case F =>
    intro w mg fa h KX G hmg
    refine' DL.all_mk KX G hmg DL.plain_law ?a0 ?l0 ?c0 ?k0 ?a1 ?l1 ?c1 ?k1 ?a2 ?l2 ?c2 ?k2 ?a3 ?l3 ?c3 ?k3 ?a4 ?l4 ?c4 ?k4 ?a5 ?l5 ?c5 ?k5 ?a6 ?l6 ?c6 ?k6 ?a7 ?l7 ?c7 ?k7 ?a8 ?l8 ?c8 ?k8 ?a9 ?l9 ?c9 ?k9 ?a10 ?l10 ?c10 ?k10 ?a11 ?l11 ?c11 ?k11 ?a12 ?l12 ?c12 ?k12 ?a13 ?l13 ?c13 ?k13 ?a14 ?l14 ?c14 ?k14 ?a15 ?l15 ?c15 ?k15 ?a16 ?l16 ?c16 ?k16 ?a17 ?l17 ?c17 ?k17 ?z_abs ?z_all ?z_bool ?z_int ?z_isinstance ?z_len ?z_list ?z_range ?z_set ?z_sorted ?z_str ?z_tuple ?z_zip ?q_LETTERS ?q_MOST_NAME ?q_RESERVED ?p_RESERVED
    (case a0 => k_is)
    (case l0 => k_is)
    (case c0 => k_is)
    (case k0 => k_is)
    (case a1 => k_is)
    (case l1 => k_is)
    (case c1 => k_is)
    (case k1 => k_is)
    (case a2 => k_is)
    (case l2 => k_is)
    (case c2 => k_is)
    (case k2 => k_is)
    (case a3 => k_is)
    (case l3 => k_is)
    (case c3 => k_is)
    (case k3 => k_is)
    (case a4 => k_is)
    (case l4 => k_is)
    (case c4 => k_is)
    (case k4 => k_is)
    (case a5 => k_is)
    (case l5 => k_is)
    (case c5 => k_is)
    (case k5 => k_is)
    (case a6 => k_is)
    (case l6 => k_is)
    (case c6 => k_is)
    (case k6 => k_is)
    (case a7 => k_is)
    (case l7 => k_is)
    (case c7 => k_is)
    (case k7 => k_is)
    (case a8 => k_is)
    (case l8 => k_is)
    (case c8 => k_is)
    (case k8 => k_is)
    (case a9 => k_is)
    (case l9 => k_is)
    (case c9 => k_is)
    (case k9 => k_is)
    (case a10 => k_is)
    (case l10 => k_is)
    (case c10 => k_is)
    (case k10 => k_is)
    (case a11 => k_is)
    (case l11 => k_is)
    (case c11 => k_is)
    (case k11 => k_is)
    (case a12 => k_is)
    (case l12 => k_is)
    (case c12 => k_is)
    (case k12 => k_is)
    (case a13 => k_is)
    (case l13 => k_is)
    (case c13 => k_is)
    (case k13 => k_is)
    (case a14 => k_is)
    (case l14 => k_is)
    (case c14 => k_is)
    (case k14 => k_is)
    (case a15 => k_is)
    (case l15 => k_is)
    (case c15 => k_is)
    (case k15 => k_is)
    (case a16 => k_is)
    (case l16 => k_is)
    (case c16 => k_is)
    (case k16 => k_is)
    (case a17 => k_is)
    (case l17 => k_is)
    (case c17 => k_is)
    (case k17 => k_is)
    (case z_abs => k_is)
    (case z_all => k_is)
    (case z_bool => k_is)
    (case z_int => k_is)
    (case z_isinstance => k_is)
    (case z_len => k_is)
    (case z_list => k_is)
    (case z_range => k_is)
    (case z_set => k_is)
    (case z_sorted => k_is)
    (case z_str => k_is)
    (case z_tuple => k_is)
    (case z_zip => k_is)
    (case q_LETTERS => k_is)
    (case q_MOST_NAME => k_is)
    (case q_RESERVED => k_is)
    (case p_RESERVED => k_is)
