import PyProof.Rows.All
import Wide.All
import OpenK.AllK
import Wide.FinOn
import KE.KExcLine
import KE.KIsAll
import KE.KTryMore
import HandS.TupAny
import HandS.TupMul
import HandS.ForMost
import HandS.Exc
import HandS.ExcInit
import HandS.Deep
import HandS.Lambda
import HandS.Zip
import HandS.SortOrd
import HandS.Conv
import KE.KExcSuper
import HandS.Style
import KE.GoesMore
import KE.GoesEnum
import HandS.IsInst
import HandS.DictComp
import HandS.Walk
import HandS.SortInts
import HandS.Spec
import HandS.Strs
import HandS.ExcField
import KE.RegKSuper
import HandS.TryMany
import KE.KDflt
import HandS.EndOwn
import KE.KNest
import HandS.Words
import KE.KMinKey
import KE.DatumOrd
import PySem.Challenge.RW_pairedoff_k75_whole_steady_mates
-- part E2
set_option Elab.async false
set_option linter.all false
set_option maxRecDepth 100000
set_option maxHeartbeats 4000000
/-! Tuples whose object is known: each rule that lays a tuple tells that it is a bare one. -/
namespace VL
open PySem PySem.Spec PyProof.Rows L2
/-- a bare tuple object -/
def Bare (o : Obj) : Prop := o.cls = .type "tuple" ∧ o.dict = none
/-- a tuple that is known to be bare -/
def SqF (K : PySem.W.Frag) (H : Hp) (a : Addr) (xs : List V) : Prop :=
  (∃ o, H a = some (.frz o (.tup xs)) ∧ Bare o) ∨
    ∃ (o : Obj) (its : Array Value) (n : Nat), K.lookup a = some o ∧ Bare o ∧ o.data = .seq its n ∧ its.size ≤ sizeLine ∧ Vals xs its.toList
theorem SqF.t {K : PySem.W.Frag} {H : Hp} {a : Addr} {xs : List V} (h : SqF K H a xs) : SqT K H a xs := by
  rcases h with ⟨o, e, _⟩ | ⟨o, its, n, k, b, d, z, r⟩
  · exact .inl (.inr ⟨o, e⟩)
  · exact .inr ⟨o, its, n, k, b.1, d, z, r⟩
/-- what is wanted behind a new tuple -/
def NewF (H : Hp) (xs : List V) (Q : VK) : Prop := ∀ p o, H p = none → Bare o → Q (.ref p) (upd H p (.frz o (.tup xs)))
section
variable {X : Cx} {pins : List (Addr × Obj)} {σ : L2.St} {H : Hp} {s : Shared} {xs : List V} {us : List Value}
/-- a tuple is laid -/
theorem lay_tup (I : Inv X pins σ H s) (t' : Nat) (r : Vals xs us) (z : xs.length ≤ sizeLine) :
    Inv X pins σ (upd H s.heap.objs.size (.frz { cls := .type "tuple", data := .seq us.toArray } (.tup xs))) { s with heap := s.heap.push { cls := .type "tuple", data := .seq us.toArray }, toks := t' } :=
  I.laid (fun _ _ e => Heap.get?_push_of_some _ e) (Nat.le_refl _) ⟨Heap.get?_push_size _ rfl, z, us, r, IsTup.new _ _⟩
theorem NewF.ep {Q : VK} (I : Inv X pins σ H s) (q : NewF H xs Q) {t' : Nat} (r : Vals xs us) (z : xs.length ≤ sizeLine) : EP X pins σ Q (.ref s.heap.objs.size) { s with heap := s.heap.push { cls := .type "tuple", data := .seq us.toArray }, toks := t' } :=
  ⟨.ref s.heap.objs.size, _, lay_tup I t' r z, rfl, q _ _ (I.hok.fresh (Nat.le_refl _)) ⟨rfl, rfl⟩⟩
end
section
variable {X : Cx} {es : List Expr} {t : TA} {pos : Pos}
def tTupF (t : TA) : TE := fun σ H Q => t σ H fun xs H1 => xs.length ≤ sizeLine ∧ NewF H1 xs Q
theorem pe_tupF {x1} (h : PA X es t) : PE X (.Tuple es x1 pos) (tTupF t) := by
  refine ⟨fun pins s σ H Q I hq => wpAny_Tuple_spliced (thn (h.run pos pins s σ H _ I hq) fun us s1 ⟨xs, H1, I1, r, z, q⟩ => ?_)⟩
  exact ⟨by rw [← r.length]; exact z, q.ep I1 (t' := s1.toks) r z⟩
/-- t + u -/
def rCatF (K : PySem.W.Frag) : R2 := fun x y H Q => ∃ a b xs ys, x = .ref a ∧ y = .ref b ∧ SqT K H a xs ∧ SqT K H b ys ∧ xs.length + ys.length ≤ sizeLine ∧
  (xs = [] → Q (.ref b) H) ∧ (xs ≠ [] → ys = [] → Q (.ref a) H) ∧ (xs ≠ [] → ys ≠ [] → NewF H (xs ++ ys) Q)
theorem op_catF : OpR X (binaryOp .Add) (rCatF X.K) := by
  intro pins s σ H x y v u Q I rx ry ⟨a, b, xs, ys, e1, e2, ha, hb, hz, q0, q1, q2⟩
  by_cases c : xs ≠ [] ∧ ys ≠ []
  · subst e1 e2
    cases rx
    cases ry
    obtain ⟨i1, r1, p1, _⟩ := I.tuple ha
    obtain ⟨i2, r2, p2, _⟩ := I.tuple hb
    exact HT.cat_tup p1 p2 (fun z => c.1 (r1.nil_iff.mp z)) (fun z => absurd (r2.nil_iff.mp z) c.2) (fun _ => (q2 c.1 c.2).ep I (t' := s.toks) (r1.append r2) (by rw [List.length_append]; exact hz)) (by rw [← r1.length, ← r2.length]; exact hz)
  · exact op_catA pins s σ H x y v u Q I rx ry ⟨a, b, xs, ys, e1, e2, ha, hb, hz, q0, q1, fun n1 n2 => absurd ⟨n1, n2⟩ c⟩
/-- t[lo:hi] -/
def rSlF (K : PySem.W.Frag) : V → Option Int → Option Int → Hp → VK → Prop := fun x lo hi H Q => ∃ a xs, x = .ref a ∧ SqT K H a xs ∧
  (HT.sIx xs.length 0 lo = 0 ∧ HT.sIx xs.length xs.length hi = xs.length → Q (.ref a) H) ∧ (¬ (HT.sIx xs.length 0 lo = 0 ∧ HT.sIx xs.length xs.length hi = xs.length) → NewF H (cutV xs lo hi) Q)
theorem sl_tupF : SlR X (rSlF X.K) := by
  intro pins s σ H x v vl vu lo hi sl Q I rx hs pl pu ⟨a, xs, e, hx, q1, q2⟩
  by_cases c : HT.sIx xs.length 0 lo = 0 ∧ HT.sIx xs.length xs.length hi = xs.length
  · exact sl_tupA pins s σ H x v vl vu lo hi sl Q I rx hs pl pu ⟨a, xs, e, hx, q1, fun n => absurd c n⟩
  · subst e
    cases rx
    obtain ⟨its, r, ht, hz⟩ := I.tuple hx
    have n : its.toArray.size = xs.length := by rw [List.size_toArray]; exact r.length.symm
    refine ⟨"tuple", _, PyProof.Rows.slot_tuple_getitem.lookup, ht.typeIs, HT.getItem_tuple_cut ht hs pl pu (by rw [n]; exact c) ?_ (by rw [n]; exact hz)⟩
    rw [n]
    exact (q2 c).ep I (t' := s.toks) ((r.drop _).take _) (Nat.le_trans (cutV_length xs lo hi) hz)
/-- tuple(l) -/
theorem call_tupleF : CallR X (.type "tuple") (fun xs H Q => ∃ p ys, xs = [.ref p] ∧ ((SqL X.K H p ys ∧ NewF H ys Q) ∨ (SqT X.K H p ys ∧ Q (.ref p) H))) := by
  intro pins s σ H xs us Q I r ⟨p, ys, e, h⟩
  rcases h with ⟨hq, q⟩ | h
  · subst e
    obtain ⟨u, rfl, rx⟩ := vals1 r
    cases rx
    obtain ⟨its, r', pl, hz⟩ := I.list hq
    have n := r'.length
    refine call_tuple_list pl.isList (fun h' kp => ?_) (by simp only [List.size_toArray] <;> omega)
    have I1 : Inv X pins σ H { s with heap := h' } := I.kept (t' := s.toks) kp
    exact q.ep I1 (t' := s.toks) r' hz
  · exact call_tuple_of pins s σ H xs us Q I r ⟨p, ys, e, .inr h⟩
end
end VL

-- part V1
set_option Elab.async false
set_option linter.all false
set_option maxRecDepth 100000
set_option maxHeartbeats 4000000
/-! Layer V, part 1: deep values, the virtual heap, lifted readings. -/
namespace VL
open PySem PySem.Spec PyProof.Rows L2

/-- a deep value: tuples are values, what can change stands at an address -/
inductive U where
  | non | bl (b : Bool) | int (i : Int) | str (x : Str) | tup (us : List U) | ref (a : Addr)
  /-- a tuple that is only taken apart -/
  | tupw (us : List U)
  /-- a list of ints that is the written part's own -/
  | sta (ns : List Int)

/-- what the virtual heap tells of an address -/
inductive Cel where
  /-- a list of one's own; a list that is only read -/
  | lst (us : List U) | rol (us : List U)
  /-- a dict of one's own: its pairs in order, keys told by their flat lists -/
  | dK (kvs : List (Key × U)) | dT (kvs : List (List Key × U))
  /-- an instance: its class, its dict's place, its fields -/
  | ins (C dx : Addr) (fs : List (Str × U))
  /-- any other tracked thing -/
  | any (o : HO)
  /-- a fact about what cannot be written -/
  | rel (φ : Hp → Prop)
abbrev VH := Addr → Option Cel
def vput (vh : VH) (a : Addr) (c : Cel) : VH := fun b => if b = a then some c else vh b
theorem vput_same {vh : VH} {a : Addr} {c : Cel} : vput vh a c a = some c := if_pos rfl
theorem vput_ne {vh : VH} {a b : Addr} {c : Cel} (h : b ≠ a) : vput vh a c b = vh b := if_neg h

/-- the written part, the tables of code objects -/
structure Wd where
  K : PySem.W.Frag
  T : List (Addr × Str)
  /-- a list of ints that is one of the written part's own objects -/
  S : Option (Addr × List Int)

mutual
def RelU (K : PySem.W.Frag) (H : Hp) : U → V → Prop
  | .non, v => v = .non
  | .bl b, v => v = .bl b
  | .int i, v => v = .int i
  | .str x, v => v = .str x
  | .tup us, v => ∃ a vs, v = .ref a ∧ SqF K H a vs ∧ RelUs K H us vs
  | .tupw us, v => ∃ a vs, v = .ref a ∧ SqT K H a vs ∧ RelUs K H us vs
  | .ref a, v => v = .ref a
  | .sta ns, v => ∃ a, v = .ref a ∧ ∀ H : Hp, SqL K H a (ns.map V.int)
def RelUs (K : PySem.W.Frag) (H : Hp) : List U → List V → Prop
  | [], vs => vs = []
  | u :: us, vs => ∃ v r, vs = v :: r ∧ RelU K H u v ∧ RelUs K H us r
end

/-- tuples stay tuples -/
structure TupStay (H H' : Hp) : Prop where
  tup : ∀ b xs, H b = some (.tup xs) → H' b = some (.tup xs)
  frz : ∀ b o u, H b = some (.frz o u) → H' b = some (.frz o u)
theorem TupStay.refl (H : Hp) : TupStay H H := ⟨fun _ _ h => h, fun _ _ _ h => h⟩
theorem TupStay.trans {H H1 H2 : Hp} (a : TupStay H H1) (b : TupStay H1 H2) : TupStay H H2 :=
  ⟨fun c xs h => b.tup c xs (a.tup c xs h), fun c o u h => b.frz c o u (a.frz c o u h)⟩
theorem TupStay.sq {K : PySem.W.Frag} {H H' : Hp} (t : TupStay H H') {a : Addr} {vs : List V} (h : SqT K H a vs) : SqT K H' a vs := by
  rcases h with (h | ⟨o, h⟩) | h
  · exact .inl (.inl (t.tup _ _ h))
  · exact .inl (.inr ⟨o, t.frz _ _ _ h⟩)
  · exact .inr h
theorem TupStay.sqF {K : PySem.W.Frag} {H H' : Hp} (t : TupStay H H') {a : Addr} {vs : List V} (h : SqF K H a vs) : SqF K H' a vs := by
  rcases h with ⟨o, h, b⟩ | h
  · exact .inl ⟨o, t.frz _ _ _ h, b⟩
  · exact .inr h
mutual
theorem RelU.stay {K : PySem.W.Frag} {H H' : Hp} (t : TupStay H H') : ∀ {u : U} {v : V}, RelU K H u v → RelU K H' u v
  | .non, _, h => h
  | .bl _, _, h => h
  | .int _, _, h => h
  | .str _, _, h => h
  | .ref _, _, h => h
  | .sta _, _, h => h
  | .tup us, v, h => by
    obtain ⟨a, vs, e, s, r⟩ := h
    exact ⟨a, vs, e, t.sqF s, RelUs.stay t r⟩
  | .tupw us, v, h => by
    obtain ⟨a, vs, e, s, r⟩ := h
    exact ⟨a, vs, e, t.sq s, RelUs.stay t r⟩
theorem RelUs.stay {K : PySem.W.Frag} {H H' : Hp} (t : TupStay H H') : ∀ {us : List U} {vs : List V}, RelUs K H us vs → RelUs K H' us vs
  | [], _, h => h
  | u :: us, vs, h => by
    obtain ⟨v, r, e, h1, h2⟩ := h
    exact ⟨v, r, e, RelU.stay t h1, RelUs.stay t h2⟩
end
section
variable {K : PySem.W.Frag} {H : Hp}
theorem RelUs.cons {u : U} {us : List U} {v : V} {vs : List V} (h : RelU K H u v) (hs : RelUs K H us vs) : RelUs K H (u :: us) (v :: vs) := ⟨v, vs, rfl, h, hs⟩
theorem RelUs.nil : RelUs K H [] [] := rfl
theorem RelUs.len : ∀ {us : List U} {vs : List V}, RelUs K H us vs → vs.length = us.length
  | [], _, h => by cases (show _ = [] from h); rfl
  | _ :: _, _, h => by
    obtain ⟨v, r, rfl, _, h2⟩ := h
    simp [RelUs.len h2]
theorem RelUs.get : ∀ {us : List U} {vs : List V} {i : Nat} {u : U}, RelUs K H us vs → us[i]? = some u → ∃ v, vs[i]? = some v ∧ RelU K H u v
  | [], _, i, _, _, e => by simp at e
  | _ :: _, _, 0, _, h, e => by
    obtain ⟨v, r, rfl, h1, _⟩ := h
    simp at e
    exact ⟨v, rfl, e ▸ h1⟩
  | _ :: _, _, i + 1, _, h, e => by
    obtain ⟨v, r, rfl, _, h2⟩ := h
    exact RelUs.get (i := i) h2 (by simpa using e)
theorem RelUs.app : ∀ {us ws : List U} {vs ys : List V}, RelUs K H us vs → RelUs K H ws ys → RelUs K H (us ++ ws) (vs ++ ys)
  | [], _, _, _, h, g => by cases (show _ = [] from h); exact g
  | _ :: _, _, _, _, h, g => by
    obtain ⟨v, r, rfl, h1, h2⟩ := h
    exact ⟨v, _, rfl, h1, RelUs.app h2 g⟩
theorem RelUs.tk : ∀ {us : List U} {vs : List V} (n : Nat), RelUs K H us vs → RelUs K H (us.take n) (vs.take n)
  | _, _, 0, _ => by simp; exact RelUs.nil
  | [], _, n + 1, h => by cases (show _ = [] from h); exact RelUs.nil
  | _ :: _, _, n + 1, h => by
    obtain ⟨v, r, rfl, h1, h2⟩ := h
    exact ⟨v, _, rfl, h1, RelUs.tk n h2⟩
theorem RelUs.dr : ∀ {us : List U} {vs : List V} (n : Nat), RelUs K H us vs → RelUs K H (us.drop n) (vs.drop n)
  | _, _, 0, h => h
  | [], _, n + 1, h => by cases (show _ = [] from h); exact RelUs.nil
  | _ :: _, _, n + 1, h => by
    obtain ⟨v, r, rfl, h1, h2⟩ := h
    exact RelUs.dr n h2
theorem RelUs.rev : ∀ {us : List U} {vs : List V}, RelUs K H us vs → RelUs K H us.reverse vs.reverse
  | [], _, h => by cases (show _ = [] from h); exact RelUs.nil
  | _ :: _, _, h => by
    obtain ⟨v, r, rfl, h1, h2⟩ := h
    rw [List.reverse_cons, List.reverse_cons]
    exact RelUs.app (RelUs.rev h2) (RelUs.cons h1 RelUs.nil)
theorem RelUs.put : ∀ {us : List U} {vs : List V} {u : U} {v : V} (i : Nat), RelUs K H us vs → RelU K H u v → RelUs K H (us.set i u) (vs.set i v)
  | [], _, _, _, _, h, _ => by cases (show _ = [] from h); exact RelUs.nil
  | _ :: _, _, _, _, 0, h, g => by
    obtain ⟨v, r, rfl, h1, h2⟩ := h
    exact ⟨_, _, rfl, g, h2⟩
  | _ :: _, _, _, _, i + 1, h, g => by
    obtain ⟨v, r, rfl, h1, h2⟩ := h
    exact ⟨_, _, rfl, h1, RelUs.put i h2 g⟩
theorem RelUs.er : ∀ {us : List U} {vs : List V} (i : Nat), RelUs K H us vs → RelUs K H (us.eraseIdx i) (vs.eraseIdx i)
  | [], _, _, h => by cases (show _ = [] from h); exact RelUs.nil
  | _ :: _, _, 0, h => by
    obtain ⟨v, r, rfl, h1, h2⟩ := h
    exact h2
  | _ :: _, _, i + 1, h => by
    obtain ⟨v, r, rfl, h1, h2⟩ := h
    exact ⟨_, _, rfl, h1, RelUs.er i h2⟩
/-- the image of a list of values under a map that keeps the relation -/
theorem RelUs.ints : ∀ {ns : List Int}, RelUs K H (ns.map U.int) (ns.map V.int)
  | [] => RelUs.nil
  | _ :: _ => RelUs.cons rfl RelUs.ints
theorem RelUs.ints_of : ∀ {ns : List Int} {vs : List V}, RelUs K H (ns.map U.int) vs → vs = ns.map V.int
  | [], _, h => h
  | n :: ns, _, h => by
    obtain ⟨v, r, rfl, h1, h2⟩ := h
    rw [show v = V.int n from h1, RelUs.ints_of h2]
    rfl
end

/-! ### cells -/
def RelF (K : PySem.W.Frag) (H : Hp) : List (Str × U) → List (Str × V) → Prop
  | [], gs => gs = []
  | p :: fs, gs => ∃ v r, gs = (p.1, v) :: r ∧ RelU K H p.2 v ∧ RelF K H fs r
def RelKV {κ : Type} (K : PySem.W.Frag) (H : Hp) : List (κ × U) → List (κ × V) → Prop
  | [], gs => gs = []
  | p :: fs, gs => ∃ v r, gs = (p.1, v) :: r ∧ RelU K H p.2 v ∧ RelKV K H fs r
theorem RelF.stay {K : PySem.W.Frag} {H H' : Hp} (t : TupStay H H') : ∀ {fs : List (Str × U)} {gs : List (Str × V)}, RelF K H fs gs → RelF K H' fs gs
  | [], _, h => h
  | _ :: _, _, h => by
    obtain ⟨v, r, e, h1, h2⟩ := h
    exact ⟨v, r, e, h1.stay t, RelF.stay t h2⟩
theorem RelKV.stay {κ : Type} {K : PySem.W.Frag} {H H' : Hp} (t : TupStay H H') : ∀ {fs : List (κ × U)} {gs : List (κ × V)}, RelKV K H fs gs → RelKV K H' fs gs
  | [], _, h => h
  | _ :: _, _, h => by
    obtain ⟨v, r, e, h1, h2⟩ := h
    exact ⟨v, r, e, h1.stay t, RelKV.stay t h2⟩
/-- what can be written -/
def Wr : HO → Prop
  | .lst _ => True
  | .dK _ => True
  | .dT _ => True
  | .ins _ _ _ => True
  | _ => False
/-- what cannot be written stays -/
def NStays (H H' : Hp) : Prop := ∀ b o, H b = some o → ¬ Wr o → (∀ ps, o ≠ .tbl ps) → H' b = some o
def RelC (K : PySem.W.Frag) (H : Hp) (a : Addr) : Cel → Prop
  | .lst us => ∃ vs, H a = some (.lst vs) ∧ RelUs K H us vs
  | .rol us => ∃ o vs, H a = some (.frz o (.lst vs)) ∧ RelUs K H us vs
  | .dK kvs => ∃ ws, H a = some (.dK ws) ∧ RelKV K H kvs ws
  | .dT kvs => ∃ ws, H a = some (.dT ws) ∧ RelKV K H kvs ws
  | .ins C dx fs => ∃ gs, H a = some (.ins C dx gs) ∧ H dx = some (.own a) ∧ RelF K H fs gs
  | .any o => H a = some o ∧ ∀ ps, o ≠ .tbl ps
  | .rel φ => φ H ∧ (∃ o, H a = some o) ∧ ∀ H1 H2, NStays H1 H2 → φ H1 → (∃ o, H1 a = some o) → φ H2 ∧ ∃ o, H2 a = some o
/-- what is no table stays -/
def Stays (H H' : Hp) : Prop := ∀ b o, H b = some o → (∀ ps, o ≠ .tbl ps) → H' b = some o
theorem Stays.tup {H H' : Hp} (s : Stays H H') : TupStay H H' := ⟨fun b xs h => s b _ h (fun _ z => by cases z), fun b o u h => s b _ h (fun _ z => by cases z)⟩
theorem RelC.stays {K : PySem.W.Frag} {H H' : Hp} {a : Addr} (s : Stays H H') : ∀ {c : Cel}, RelC K H a c → RelC K H' a c
  | .lst us, h => by obtain ⟨vs, e, r⟩ := h; exact ⟨vs, s _ _ e (fun _ z => by cases z), r.stay s.tup⟩
  | .rol us, h => by
    obtain ⟨o, vs, e, r⟩ := h
    exact ⟨o, vs, s _ _ e (fun _ z => by cases z), r.stay s.tup⟩
  | .dK us, h => by obtain ⟨vs, e, r⟩ := h; exact ⟨vs, s _ _ e (fun _ z => by cases z), r.stay s.tup⟩
  | .dT us, h => by obtain ⟨vs, e, r⟩ := h; exact ⟨vs, s _ _ e (fun _ z => by cases z), r.stay s.tup⟩
  | .ins C dx fs, h => by obtain ⟨vs, e, d, r⟩ := h; exact ⟨vs, s _ _ e (fun _ z => by cases z), s _ _ d (fun _ z => by cases z), r.stay s.tup⟩
  | .any o, h => ⟨s _ _ h.1 h.2, h.2⟩
  | .rel φ, h => by
    obtain ⟨q, w, r⟩ := h
    obtain ⟨q', w'⟩ := r H H' (fun b o e _ n => s b o e n) q w
    exact ⟨q', w', r⟩
theorem RelC.some {K : PySem.W.Frag} {H : Hp} {a : Addr} : ∀ {c : Cel}, RelC K H a c → ∃ o, H a = some o
  | .lst _, ⟨_, e, _⟩ => ⟨_, e⟩
  | .rol _, ⟨_, _, e, _⟩ => ⟨_, e⟩
  | .dK _, ⟨_, e, _⟩ => ⟨_, e⟩
  | .dT _, ⟨_, e, _⟩ => ⟨_, e⟩
  | .ins _ _ _, ⟨_, e, _⟩ => ⟨_, e⟩
  | .any _, e => ⟨_, e.1⟩
  | .rel _, e => e.2.1
/-- the virtual heap is told rightly, the tables too -/
structure RelH (W : Wd) (H : Hp) (vh : VH) : Prop where
  cel : ∀ a c, vh a = some c → RelC W.K H a c
  tab : LamX.Tabs W.T H
  sta : ∀ a ns, W.S = some (a, ns) → ∀ H : Hp, SqL W.K H a (ns.map V.int)
theorem RelH.fresh {W : Wd} {H : Hp} {vh : VH} (r : RelH W H vh) {a : Addr} (h : H a = none) : vh a = none := by
  cases e : vh a with
  | none => rfl
  | some c =>
    obtain ⟨o, q⟩ := (r.cel a c e).some
    rw [h] at q
    cases q
/-- one step: what was not mine stays -/
structure Stp (W : Wd) (H : Hp) (vh : VH) (H' : Hp) (vh' : VH) : Prop where
  tup : TupStay H H'
  fr : ∀ b o, H b = some o → (∀ ps, o ≠ .tbl ps) → vh b = none → H' b = some o
  liv : ∀ b, H b ≠ none → H' b ≠ none
  dom : ∀ b, vh b = none → H b ≠ none → vh' b = none
  rel : RelH W H' vh'
section
variable {W : Wd} {H H1 H2 H' : Hp} {vh vh1 vh2 vh' : VH}
theorem Stp.refl (r : RelH W H vh) : Stp W H vh H vh := ⟨.refl H, fun _ _ h _ _ => h, fun _ h => h, fun _ h _ => h, r⟩
theorem Stp.trans (a : Stp W H vh H1 vh1) (b : Stp W H1 vh1 H2 vh2) : Stp W H vh H2 vh2 :=
  ⟨a.tup.trans b.tup, fun c o h n v => b.fr c o (a.fr c o h n v) n (a.dom c v (by rw [h]; simp)), fun c h => b.liv c (a.liv c h), fun c v h => b.dom c (a.dom c v h) (a.liv c h), b.rel⟩
/-- less may be told behind it -/
theorem Stp.drop (a : Stp W H vh H' vh') (h : ∀ b c, vh2 b = some c → vh' b = some c) : Stp W H vh H' vh2 := by
  refine ⟨a.tup, a.fr, a.liv, fun b v n => ?_, ⟨fun b c e => a.rel.cel b c (h b c e), a.rel.tab, a.rel.sta⟩⟩
  cases e : vh2 b with
  | none => rfl
  | some c =>
    have q := h b c e
    rw [a.dom b v n] at q
    cases q
theorem Tabs.stays {T : List (Addr × Str)} {H H' : Hp} (t : LamX.Tabs T H) (h : ∀ b ps, H b = some (.tbl ps) → H' b = some (.tbl ps)) (h2 : ∀ b φ, H b = some (.ext φ) → H' b = some (.ext φ)) : LamX.Tabs T H' := fun p hp => by
  obtain ⟨ps, e, o, f⟩ := t p hp
  refine ⟨ps, h _ _ e, o, fun pos cv q => ?_⟩
  obtain ⟨c, e1, e2⟩ := f pos cv q
  exact ⟨c, e1, h2 _ _ e2⟩
/-- something new, told -/
theorem Stp.new (r : RelH W H vh) {p : Addr} {o : HO} {c : Cel} (n : H p = none) (h : RelC W.K (upd H p o) p c) : Stp W H vh (upd H p o) (vput vh p c) := by
  have k : ∀ b u, H b = some u → upd H p o b = some u := fun b u e => by rw [upd_ne (ne_of_none e n)]; exact e
  refine ⟨⟨fun b xs e => k b _ e, fun b u x e => k b _ e⟩, fun b u e _ _ => k b u e, fun b e => ?_, fun b v e => ?_, ⟨fun b d e => ?_, Tabs.stays r.tab (fun b ps e => k b _ e) fun b φ e => k b _ e, r.sta⟩⟩
  · cases z : H b with
    | none => exact absurd z e
    | some u => rw [k b u z]; simp
  · have ne : b ≠ p := fun z => e (z ▸ n)
    rw [vput_ne ne]
    exact v
  · by_cases z : b = p
    · subst z
      rw [vput_same] at e
      cases e
      exact h
    · rw [vput_ne z] at e
      exact (r.cel b d e).stays fun b u e _ => k b u e
/-- something new, not told (a tuple) -/
theorem Stp.new0 (r : RelH W H vh) {p : Addr} {o : HO} (n : H p = none) : Stp W H vh (upd H p o) vh := by
  have k : ∀ b u, H b = some u → upd H p o b = some u := fun b u e => by rw [upd_ne (ne_of_none e n)]; exact e
  refine ⟨⟨fun b xs e => k b _ e, fun b u x e => k b _ e⟩, fun b u e _ _ => k b u e, fun b e => ?_, fun b v e => v, ⟨fun b d e => (r.cel b d e).stays fun b u e _ => k b u e, Tabs.stays r.tab (fun b ps e => k b _ e) fun b φ e => k b _ e, r.sta⟩⟩
  cases z : H b with
  | none => exact absurd z e
  | some u => rw [k b u z]; simp
/-- one of mine is written -/
theorem Stp.put (r : RelH W H vh) {a : Addr} {o o' : HO} {c c' : Cel} (hv : vh a = some c) (ho : H a = some o) (hw : Wr o) (h : RelC W.K (upd H a o') a c') : Stp W H vh (upd H a o') (vput vh a c') := by
  have k : ∀ b u, H b = some u → ¬ Wr u → upd H a o' b = some u := fun b u e n => by
    have ne : b ≠ a := fun z => by subst z; rw [ho] at e; cases e; exact n hw
    rw [upd_ne ne]
    exact e
  have k2 : ∀ b u, b ≠ a → H b = some u → upd H a o' b = some u := fun b u ne e => by rw [upd_ne ne]; exact e
  have st : TupStay H (upd H a o') := ⟨fun b xs e => k b _ e (fun z => z), fun b u x e => k b _ e (fun z => z)⟩
  refine ⟨st, fun b u e _ v => k2 b u (fun z => by subst z; rw [hv] at v; cases v) e, fun b e => ?_, fun b v e => ?_, ⟨fun b d e => ?_, Tabs.stays r.tab (fun b ps e => k b _ e fun z => z) fun b φ e => k b _ e fun z => z, r.sta⟩⟩
  · by_cases z : b = a
    · subst z; rw [upd_same]; simp
    · rw [upd_ne z]; exact e
  · have ne : b ≠ a := fun z => by subst z; rw [hv] at v; cases v
    rw [vput_ne ne]
    exact v
  · by_cases z : b = a
    · subst z
      rw [vput_same] at e
      cases e
      exact h
    · rw [vput_ne z] at e
      have q := r.cel b d e
      cases d with
      | lst us => obtain ⟨vs, e1, q1⟩ := q; exact ⟨vs, k2 _ _ z e1, q1.stay st⟩
      | rol us => obtain ⟨u, vs, e1, q1⟩ := q; exact ⟨u, vs, k2 _ _ z e1, q1.stay st⟩
      | dK us => obtain ⟨vs, e1, q1⟩ := q; exact ⟨vs, k2 _ _ z e1, q1.stay st⟩
      | dT us => obtain ⟨vs, e1, q1⟩ := q; exact ⟨vs, k2 _ _ z e1, q1.stay st⟩
      | ins C dx fs => obtain ⟨vs, e1, e2, q1⟩ := q; exact ⟨vs, k2 _ _ z e1, k _ _ e2 (fun z => z), q1.stay st⟩
      | any u => exact ⟨k2 _ _ z q.1, q.2⟩
      | rel φ =>
        obtain ⟨q1, w, r1⟩ := q
        obtain ⟨q2, w2⟩ := r1 H (upd H a o') (fun b u e n _ => k b u e n) q1 w
        exact ⟨q2, w2, r1⟩
end

/-! ### lifted readings -/
abbrev EV := List (Option U)
/-- what is wanted of an exception: its class, its field, the field's value -/
abbrev XV := Addr → Str → U → VH → Prop
abbrev TV := EV → VH → (U → VH → Prop) → XV → Prop
abbrev TVb := EV → VH → (Bool → VH → Prop) → XV → Prop
abbrev TVa := EV → VH → (List U → VH → Prop) → XV → Prop
structure EndV where
  nx : EV → VH → Prop
  rt : U → VH → Prop
  bk : EV → VH → Prop := fun _ _ => False
  ct : EV → VH → Prop := fun _ _ => False
abbrev TVs := EndV → XV → EV → VH → Prop
structure RelG (K : PySem.W.Frag) (H : Hp) (Γ : EV) (σ : L2.St) : Prop where
  len : σ.length = Γ.length
  at_ : ∀ (i : Nat) (u : U), Γ[i]? = some (some u) → ∃ v, σ[i]? = some (some v) ∧ RelU K H u v
theorem RelG.stay {K : PySem.W.Frag} {H H' : Hp} {Γ : EV} {σ : L2.St} (t : TupStay H H') (g : RelG K H Γ σ) : RelG K H' Γ σ := ⟨g.len, fun i u e => by
  obtain ⟨v, e1, r⟩ := g.at_ i u e
  exact ⟨v, e1, r.stay t⟩⟩
theorem RelG.put {K : PySem.W.Frag} {H : Hp} {Γ : EV} {σ : L2.St} (g : RelG K H Γ σ) (i : Nat) {u : U} {v : V} (r : RelU K H u v) : RelG K H (Γ.set i (some u)) (σ.set i (some v)) := by
  refine ⟨by simpa using g.len, fun j w e => ?_⟩
  by_cases h : j = i
  · subst h
    by_cases hi : j < Γ.length
    · rw [List.getElem?_set_self hi] at e
      cases e
      exact ⟨v, by rw [List.getElem?_set_self (by rw [g.len]; exact hi)], r⟩
    · rw [List.getElem?_eq_none (by simpa using Nat.not_lt.mp hi)] at e
      cases e
  · rw [List.getElem?_set_ne (Ne.symm h)] at e
    obtain ⟨x, e1, q⟩ := g.at_ j w e
    exact ⟨x, by rw [List.getElem?_set_ne (Ne.symm h)]; exact e1, q⟩
/-- the tables and the law's script -/
structure Pk where
  T : List (Addr × Str)
  S : Option (Addr × List Int)
abbrev wd (X : Cx) (P : Pk) : Wd := ⟨X.K, P.T, P.S⟩
def LX (W : Wd) (E : XK) (H : Hp) (vh : VH) (Z : XV) : Prop :=
  ∀ C f u vh', Z C f u vh' → ∀ d v H', Stp W H vh H' vh' → RelU W.K H' u v → H' d = some (.xd [(f, v)]) → E (.ref C) (some d) H'
theorem LX.step {W : Wd} {E : XK} {H H' : Hp} {vh vh' : VH} {Z : XV} (x : LX W E H vh Z) (s : Stp W H vh H' vh') : LX W E H' vh' Z :=
  fun C f u vh2 z d v H2 s2 r e => x C f u vh2 z d v H2 (s.trans s2) r e
def lE (W : Wd) (E : XK) (t : TV) : TE := fun σ H Q => ∃ Γ vh R Z, RelG W.K H Γ σ ∧ RelH W H vh ∧ t Γ vh R Z ∧ (∀ u vh', R u vh' → ∀ v H', Stp W H vh H' vh' → RelU W.K H' u v → Q v H') ∧ LX W E H vh Z
def lT (W : Wd) (E : XK) (t : TVb) : TT := fun σ H Q => ∃ Γ vh R Z, RelG W.K H Γ σ ∧ RelH W H vh ∧ t Γ vh R Z ∧ (∀ b vh', R b vh' → ∀ H', Stp W H vh H' vh' → Q b H') ∧ LX W E H vh Z
def lA (W : Wd) (E : XK) (t : TVa) : TA := fun σ H Q => ∃ Γ vh R Z, RelG W.K H Γ σ ∧ RelH W H vh ∧ t Γ vh R Z ∧ (∀ us vh', R us vh' → ∀ vs H', Stp W H vh H' vh' → RelUs W.K H' us vs → Q vs H') ∧ LX W E H vh Z
structure LEnd (W : Wd) (H : Hp) (vh : VH) (R : EndV) (D : Ends) : Prop where
  nx : ∀ Γ' vh', R.nx Γ' vh' → ∀ σ' H', Stp W H vh H' vh' → RelG W.K H' Γ' σ' → D.nx σ' H'
  rt : ∀ u vh', R.rt u vh' → ∀ v H', Stp W H vh H' vh' → RelU W.K H' u v → D.rt v H'
  bk : ∀ Γ' vh', R.bk Γ' vh' → ∀ σ' H', Stp W H vh H' vh' → RelG W.K H' Γ' σ' → D.bk σ' H'
  ct : ∀ Γ' vh', R.ct Γ' vh' → ∀ σ' H', Stp W H vh H' vh' → RelG W.K H' Γ' σ' → D.ct σ' H'
theorem LEnd.step {W : Wd} {H H' : Hp} {vh vh' : VH} {R : EndV} {D : Ends} (l : LEnd W H vh R D) (s : Stp W H vh H' vh') : LEnd W H' vh' R D :=
  ⟨fun Γ v r σ h s2 g => l.nx Γ v r σ h (s.trans s2) g, fun u v r x h s2 g => l.rt u v r x h (s.trans s2) g, fun Γ v r σ h s2 g => l.bk Γ v r σ h (s.trans s2) g, fun Γ v r σ h s2 g => l.ct Γ v r σ h (s.trans s2) g⟩
def lS (W : Wd) (E : XK) (t : TVs) : TS := fun D σ H => ∃ Γ vh R Z, RelG W.K H Γ σ ∧ RelH W H vh ∧ t R Z Γ vh ∧ LEnd W H vh R D ∧ LX W E H vh Z
abbrev VE (X : Cx) (P : Pk) (E : XK) (e : Expr) (t : TV) : Prop := PE X e (lE (wd X P) E t)
abbrev VT (X : Cx) (P : Pk) (E : XK) (e : Expr) (t : TVb) : Prop := PT X e (lT (wd X P) E t)
abbrev VA (X : Cx) (P : Pk) (E : XK) (es : List Expr) (t : TVa) : Prop := PA X es (lA (wd X P) E t)
abbrev VS (X : Cx) (P : Pk) (E : XK) (s : Stmt) (t : TVs) : Prop := PS X s (lS (wd X P) E t)
abbrev VSs (X : Cx) (P : Pk) (E : XK) (s : List Stmt) (t : TVs) : Prop := PSs X s (lS (wd X P) E t)

/-- a reading may be asked for more than it needs -/
theorem PE.asks {X : Cx} {e : Expr} {t u : TE} (h : PE X e t) (i : ∀ σ H Q, u σ H Q → t σ H Q) : PE X e u := ⟨fun pins s σ H Q I w => h.run pins s σ H Q I (i σ H Q w)⟩
theorem PT.asks {X : Cx} {e : Expr} {t u : TT} (h : PT X e t) (i : ∀ σ H Q, u σ H Q → t σ H Q) : PT X e u := ⟨fun pins s σ H Q I w => h.run pins s σ H Q I (i σ H Q w)⟩
theorem PA.asks {X : Cx} {e : List Expr} {t u : TA} (h : PA X e t) (i : ∀ σ H Q, u σ H Q → t σ H Q) : PA X e u := ⟨fun pos pins s σ H Q I w => h.run pos pins s σ H Q I (i σ H Q w)⟩
theorem PS.asks {X : Cx} {e : Stmt} {t u : TS} (h : PS X e t) (i : ∀ D σ H, u D σ H → t D σ H) : PS X e u := ⟨fun pins s σ H D I w => h.run pins s σ H D I (i D σ H w)⟩
theorem PSs.asks {X : Cx} {e : List Stmt} {t u : TS} (h : PSs X e t) (i : ∀ D σ H, u D σ H → t D σ H) : PSs X e u := ⟨fun pins s σ H D I w => h.run pins s σ H D I (i D σ H w)⟩
/-- one lifted reading behind another -/
theorem lE.go {W : Wd} {E : XK} {t : TV} {Γ : EV} {σ : L2.St} {H : Hp} {vh : VH} {R : U → VH → Prop} {Z : XV} {Q : VK} (g : RelG W.K H Γ σ) (h : RelH W H vh) (ht : t Γ vh R Z) (x : LX W E H vh Z)
    (k : ∀ u vh', R u vh' → ∀ v H', Stp W H vh H' vh' → RelU W.K H' u v → Q v H') : lE W E t σ H Q := ⟨Γ, vh, R, Z, g, h, ht, k, x⟩
end VL

-- part V2
set_option Elab.async false
set_option linter.all false
set_option maxRecDepth 100000
set_option maxHeartbeats 4000000
/-! Layer V, part 2: expressions. -/
namespace VL
open PySem PySem.Spec PyProof.Rows L2

/-! ### equality of pure data -/
mutual
def eqU : U → U → Bool
  | .non, .non => true
  | .bl a, .bl b => a == b
  | .bl a, .int j => (if a then 1 else 0) == j
  | .int i, .bl b => i == (if b then 1 else 0)
  | .int i, .int j => i == j
  | .str x, .str y => x == y
  | .tup xs, .tup ys => eqUs xs ys
  | _, _ => false
def eqUs : List U → List U → Bool
  | [], [] => true
  | x :: xs, y :: ys => eqU x y && eqUs xs ys
  | _, _ => false
end
/-! pure data, so deep at most, of texts that can be laid -/
mutual
def okD : Nat → U → Bool
  | _, .non => true
  | _, .bl _ => true
  | _, .int _ => true
  | _, .str x => PyData.canLay0 (.str x)
  | 0, .tup _ => false
  | n + 1, .tup us => okDs n us
  | _, .ref _ => false
  | _, .tupw _ => false
  | _, .sta _ => false
def okDs : Nat → List U → Bool
  | _, [] => true
  | n, u :: us => okD n u && okDs n us
end
mutual
def pdU : U → PyData
  | .non => .none
  | .bl b => .bool b
  | .int i => .int i
  | .str x => .str x
  | .tup us => .tuple (pdUs us)
  | .ref _ => .none
  | .tupw _ => .none
  | .sta _ => .none
def pdUs : List U → List PyData
  | [] => []
  | u :: us => pdU u :: pdUs us
end
mutual
theorem okD.pd : ∀ {n : Nat} {u : U}, okD n u = true → (pdU u).canLay0 = true ∧ (pdU u).depth ≤ n
  | _, .non, _ => by simp [pdU, PyData.canLay0, PyData.depth]
  | _, .bl _, _ => by simp [pdU, PyData.canLay0, PyData.depth]
  | _, .int _, _ => by simp [pdU, PyData.canLay0, PyData.depth]
  | _, .str x, h => by
    have h : PyData.canLay0 (.str x) = true := by simpa [okD] using h
    exact ⟨by simpa [pdU] using h, by simp [pdU, PyData.depth]⟩
  | 0, .tup _, h => by simp [okD] at h
  | n + 1, .tup us, h => by
    have q := okDs.pd (n := n) (us := us) (by simpa [okD] using h)
    exact ⟨by simpa [pdU, PyData.canLay0] using q.1, by simp only [pdU, PyData.depth]; omega⟩
  | _, .ref _, h => by simp [okD] at h
  | _, .tupw _, h => by simp [okD] at h
  | _, .sta _, h => by simp [okD] at h
theorem okDs.pd : ∀ {n : Nat} {us : List U}, okDs n us = true → PyData.canLayAll0 (pdUs us) = true ∧ PyData.depthAll (pdUs us) ≤ n
  | _, [], _ => by simp [pdUs, PyData.canLayAll0, PyData.depthAll]
  | n, u :: us, h => by
    have h : okD n u = true ∧ okDs n us = true := by simpa [okDs] using h
    have a := okD.pd h.1
    have b := okDs.pd h.2
    exact ⟨by simp [pdUs, PyData.canLayAll0, a.1, b.1], by simp only [pdUs, PyData.depthAll]; omega⟩
end
mutual
theorem eqU.pd : ∀ {n m : Nat} {x y : U}, okD n x = true → okD m y = true → PyData.eqv (pdU x) (pdU y) = eqU x y
  | n + 1, m + 1, .tup xs, .tup ys, h, g => by
    simp only [pdU, PyData.eqv, eqU]
    exact eqUs.pd (n := n) (m := m) (by simpa [okD] using h) (by simpa [okD] using g)
  | 0, _, .tup xs, .tup ys, h, _ => by simp [okD] at h
  | _, 0, .tup xs, .tup ys, _, g => by simp [okD] at g
  | _, _, .non, y, _, g => by cases y <;> first | (simp [okD] at g; done) | simp [pdU, PyData.eqv, eqU]
  | _, _, .bl _, y, _, g => by cases y <;> first | (simp [okD] at g; done) | simp [pdU, PyData.eqv, eqU]
  | _, _, .int _, y, _, g => by cases y <;> first | (simp [okD] at g; done) | simp [pdU, PyData.eqv, eqU]
  | _, _, .str _, y, _, g => by cases y <;> first | (simp [okD] at g; done) | simp [pdU, PyData.eqv, eqU]
  | _, _, .ref _, y, h, _ => by simp [okD] at h
  | _, _, .tupw _, y, h, _ => by simp [okD] at h
  | _, _, .sta _, y, h, _ => by simp [okD] at h
  | _, _, .tup _, .tupw _, _, g => by simp [okD] at g
  | _, _, .tup _, .sta _, _, g => by simp [okD] at g
  | _, _, .tup _, .non, _, _ => by simp [pdU, PyData.eqv, eqU]
  | _, _, .tup _, .bl _, _, _ => by simp [pdU, PyData.eqv, eqU]
  | _, _, .tup _, .int _, _, _ => by simp [pdU, PyData.eqv, eqU]
  | _, _, .tup _, .str _, _, _ => by simp [pdU, PyData.eqv, eqU]
  | _, _, .tup _, .ref _, _, g => by simp [okD] at g
theorem eqUs.pd : ∀ {n m : Nat} {xs ys : List U}, okDs n xs = true → okDs m ys = true → PyData.eqvAll (pdUs xs) (pdUs ys) = eqUs xs ys
  | _, _, [], [], _, _ => by simp [pdUs, PyData.eqvAll, eqUs]
  | _, _, [], _ :: _, _, _ => by simp [pdUs, PyData.eqvAll, eqUs]
  | _, _, _ :: _, [], _, _ => by simp [pdUs, PyData.eqvAll, eqUs]
  | n, m, x :: xs, y :: ys, h, g => by
    have h : okD n x = true ∧ okDs n xs = true := by simpa [okDs] using h
    have g : okD m y = true ∧ okDs m ys = true := by simpa [okDs] using g
    simp only [pdUs, PyData.eqvAll, eqUs]
    rw [eqU.pd h.1 g.1, eqUs.pd h.2 g.2]
end
mutual
theorem RelU.dp {K : PySem.W.Frag} {H : Hp} : ∀ {n : Nat} {u : U} {v : V}, okD n u = true → RelU K H u v → Dp K H v (pdU u)
  | _, .non, _, _, h => by cases (show _ = V.non from h); simp only [pdU]; exact .non
  | _, .bl b, _, _, h => by cases (show _ = V.bl b from h); simp only [pdU]; exact .bl b
  | _, .int i, _, _, h => by cases (show _ = V.int i from h); simp only [pdU]; exact .int i
  | _, .str x, _, _, h => by cases (show _ = V.str x from h); simp only [pdU]; exact .str x
  | 0, .tup _, _, g, _ => by simp [okD] at g
  | n + 1, .tup us, _, g, h => by
    obtain ⟨a, vs, rfl, s, r⟩ := h
    simp only [pdU]
    exact .tup s.t (RelUs.dp (n := n) (by simpa [okD] using g) r)
  | _, .ref _, _, g, _ => by simp [okD] at g
  | _, .tupw _, _, g, _ => by simp [okD] at g
  | _, .sta _, _, g, _ => by simp [okD] at g
theorem RelUs.dp {K : PySem.W.Frag} {H : Hp} : ∀ {n : Nat} {us : List U} {vs : List V}, okDs n us = true → RelUs K H us vs → DpAll K H vs (pdUs us)
  | _, [], _, _, h => by cases (show _ = [] from h); simp only [pdUs]; exact .nil
  | n, u :: us, _, g, h => by
    obtain ⟨v, r, rfl, h1, h2⟩ := h
    have g : okD n u = true ∧ okDs n us = true := by simpa [okDs] using g
    simp only [pdUs]
    exact .cons (RelU.dp g.1 h1) (RelUs.dp g.2 h2)
end
/-- a list that can be read -/
def asL (S : Option (Addr × List Int)) (vh : VH) : U → Option (List U)
  | .ref a => match vh a with
    | some (.lst us) => some us
    | some (.rol us) => some us
    | none => match S with
      | some (b, ns) => if a = b then some (ns.map U.int) else none
      | none => none
    | _ => none
  | .sta ns => some (ns.map U.int)
  | _ => none
theorem asL.sq {W : Wd} {H : Hp} {vh : VH} {x : U} {us : List U} {v : V} (r : RelH W H vh) (h : asL W.S vh x = some us) (e : RelU W.K H x v) : ∃ a vs, v = .ref a ∧ SqL W.K H a vs ∧ RelUs W.K H us vs := by
  cases x <;> first | (simp [asL] at h; done) | skip
  rotate_left
  · cases h
    obtain ⟨a, rfl, q⟩ := e
    exact ⟨a, _, rfl, q H, RelUs.ints⟩
  rename_i a
  have e : v = .ref a := e
  subst e
  refine ⟨a, ?_⟩
  simp only [asL] at h
  cases hv : vh a with
  | some c =>
    rw [hv] at h
    have q := r.cel a c hv
    cases c <;> first | (simp at h; done) | skip
    · cases h
      obtain ⟨vs, q1, q2⟩ := q
      exact ⟨vs, rfl, .inl (.inl q1), q2⟩
    · cases h
      obtain ⟨o, vs, q1, q2⟩ := q
      exact ⟨vs, rfl, .inl (.inr ⟨o, q1⟩), q2⟩
  | none =>
    rw [hv] at h
    cases hs : W.S with
    | none => rw [hs] at h; simp at h
    | some p =>
      obtain ⟨b, ns⟩ := p
      rw [hs] at h
      simp only at h
      split at h
      · rename_i z
        subst z
        cases h
        exact ⟨_, rfl, r.sta a ns hs H, RelUs.ints⟩
      · cases h
/-- what == asks of two values -/
def eqR (S : Option (Addr × List Int)) (vh : VH) (x y : U) (k : Bool → Prop) : Prop :=
  match asL S vh x, asL S vh y with
  | some xs, some ys => okDs 9 xs = true ∧ okDs 9 ys = true ∧ k (eqUs xs ys)
  | some xs, none => okDs 9 xs = true ∧ okD 9 y = true ∧ k false
  | none, some ys => okD 9 x = true ∧ okDs 9 ys = true ∧ k false
  | none, none => okD 9 x = true ∧ okD 9 y = true ∧ k (eqU x y)
theorem shaped_of {d : PyData} {n : Nat} (h : d.canLay0 = true) (g : d.depth ≤ n) (hn : n ≤ 60 := by decide) : SeqAt.shaped d = true := by
  show (d.canLay0 && decide (d.depth ≤ 64)) = true
  rw [Bool.and_eq_true]
  exact ⟨h, decide_eq_true (by omega)⟩
theorem eqv_list_pd {xs : List PyData} : ∀ {y : U} {n : Nat}, okD n y = true → PyData.eqv (.list xs) (pdU y) = false
  | .non, _, _ => by simp [pdU, PyData.eqv]
  | .bl _, _, _ => by simp [pdU, PyData.eqv]
  | .int _, _, _ => by simp [pdU, PyData.eqv]
  | .str _, _, _ => by simp [pdU, PyData.eqv]
  | .tup _, _, _ => by simp [pdU, PyData.eqv]
  | .ref _, _, h => by simp [okD] at h
  | .tupw _, _, h => by simp [okD] at h
  | .sta _, _, h => by simp [okD] at h
theorem eqv_pd_list {xs : List PyData} : ∀ {y : U} {n : Nat}, okD n y = true → PyData.eqv (pdU y) (.list xs) = false
  | .non, _, _ => by simp [pdU, PyData.eqv]
  | .bl _, _, _ => by simp [pdU, PyData.eqv]
  | .int _, _, _ => by simp [pdU, PyData.eqv]
  | .str _, _, _ => by simp [pdU, PyData.eqv]
  | .tup _, _, _ => by simp [pdU, PyData.eqv]
  | .ref _, _, h => by simp [okD] at h
  | .tupw _, _, h => by simp [okD] at h
  | .sta _, _, h => by simp [okD] at h
theorem eqR.pd {W : Wd} {H : Hp} {vh : VH} {x y : U} {a b : V} {k : Bool → Prop} (r : RelH W H vh) (h : eqR W.S vh x y k) (ha : RelU W.K H x a) (hb : RelU W.K H y b) :
    ∃ d e, Dp W.K H a d ∧ Dp W.K H b e ∧ SeqAt.shaped d = true ∧ SeqAt.shaped e = true ∧ k (PyData.eqv d e) := by
  have lst : ∀ {u : U} {us : List U} {v : V}, asL W.S vh u = some us → okDs 9 us = true → RelU W.K H u v → Dp W.K H v (.list (pdUs us)) ∧ SeqAt.shaped (.list (pdUs us)) = true := fun {u us v} e o q => by
    obtain ⟨c, vs, rfl, s, q2⟩ := asL.sq r e q
    have p := okDs.pd o
    exact ⟨.lst s (RelUs.dp o q2), shaped_of (n := 10) (by simpa [PyData.canLay0] using p.1) (by simp only [PyData.depth]; omega)⟩
  have pur : ∀ {u : U} {v : V}, okD 9 u = true → RelU W.K H u v → Dp W.K H v (pdU u) ∧ SeqAt.shaped (pdU u) = true := fun {u v} o q =>
    ⟨RelU.dp o q, shaped_of (n := 9) (okD.pd o).1 (okD.pd o).2⟩
  unfold eqR at h
  cases ex : asL W.S vh x with
  | some xs =>
    cases ey : asL W.S vh y with
    | some ys =>
      rw [ex, ey] at h
      obtain ⟨o1, o2, q⟩ := h
      obtain ⟨d1, s1⟩ := lst ex o1 ha
      obtain ⟨d2, s2⟩ := lst ey o2 hb
      refine ⟨_, _, d1, d2, s1, s2, ?_⟩
      simp only [PyData.eqv]
      rw [eqUs.pd o1 o2]
      exact q
    | none =>
      rw [ex, ey] at h
      obtain ⟨o1, o2, q⟩ := h
      obtain ⟨d1, s1⟩ := lst ex o1 ha
      obtain ⟨d2, s2⟩ := pur o2 hb
      refine ⟨_, _, d1, d2, s1, s2, ?_⟩
      rw [eqv_list_pd o2]
      exact q
  | none =>
    cases ey : asL W.S vh y with
    | some ys =>
      rw [ex, ey] at h
      obtain ⟨o1, o2, q⟩ := h
      obtain ⟨d1, s1⟩ := pur o1 ha
      obtain ⟨d2, s2⟩ := lst ey o2 hb
      refine ⟨_, _, d1, d2, s1, s2, ?_⟩
      rw [eqv_pd_list o1]
      exact q
    | none =>
      rw [ex, ey] at h
      obtain ⟨o1, o2, q⟩ := h
      obtain ⟨d1, s1⟩ := pur o1 ha
      obtain ⟨d2, s2⟩ := pur o2 hb
      refine ⟨_, _, d1, d2, s1, s2, ?_⟩
      rw [eqU.pd o1 o2]
      exact q

/-! ### names, constants, displays -/
def getV (Γ : EV) (i : Nat) (k : U → Prop) : Prop := match Γ[i]? with
  | some (some u) => k u
  | _ => False
def vVar (i : Nat) : TV := fun Γ vh R _ => getV Γ i fun u => R u vh
def vC (u : U) : TV := fun _ vh R _ => R u vh
section
variable {X : Cx} {P : Pk} {E : XK}
theorem ve_var {i : Nat} {x : Str} {pos : Pos} (hN : X.N[i]? = some x) (hv : Vis X.env.scope x) (hd : (x == ("__debug__" : Str)) = false := by decide) (hcd : (x == ("__classdict__" : Str)) = false := by decide) : VE X P E (.Name x pos) (vVar i) := by
  refine PE.asks (pe_var hN hv hd hcd) fun σ H Q ⟨Γ, vh, R, Z, g, r, t, k, _⟩ => ?_
  simp only [vVar, getV] at t
  split at t
  · rename_i u e
    obtain ⟨v, e1, q⟩ := g.at_ i u e
    exact ⟨v, e1, k _ _ t _ _ (.refl r) q⟩
  · exact t.elim
theorem ve_con {e : Expr} {v : V} {u : U} (h : PE X e (tC v)) (r : ∀ H : Hp, RelU X.K H u v) : VE X P E e (vC u) :=
  PE.asks h fun _ H _ ⟨_, _, _, _, _, q, t, k, _⟩ => k _ _ t _ _ (.refl q) (r H)
theorem ve_int {i : Int} {j pos} : VE X P E (.Constant (.int i) j pos) (vC (.int i)) := ve_con pe_int fun _ => rfl
theorem ve_bl {b : Bool} {j pos} : VE X P E (.Constant (.bool b) j pos) (vC (.bl b)) := ve_con pe_bl fun _ => rfl
theorem ve_non {j pos} : VE X P E (.Constant .none j pos) (vC .non) := ve_con pe_non fun _ => rfl
theorem ve_str {x : Str} {j pos} : VE X P E (.Constant (.str x) j pos) (vC (.str x)) := ve_con pe_str fun _ => rfl
/-- a module's constant -/
theorem ve_glob {x : Str} {pos : Pos} {w : Value} {v : V} {u : U} (hg : Gl X x) (hm : X.mg x = some w) (rv : RelV v w) (r : ∀ H : Hp, RelU X.K H u v) (hd : (x == ("__debug__" : Str)) = false := by decide) : VE X P E (.Name x pos) (vC u) := ve_con (pe_glob hg hm rv hd) r
def vNil : TVa := fun _ vh R _ => R [] vh
def vCons (t : TV) (ts : TVa) : TVa := fun Γ vh R Z => t Γ vh (fun u vh1 => ts Γ vh1 (fun us vh2 => R (u :: us) vh2) Z) Z
theorem va_nil : VA X P E [] vNil := PA.asks pa_nil fun _ H _ ⟨_, _, _, _, _, r, t, k, _⟩ => k _ _ t _ _ (.refl r) RelUs.nil
theorem va_cons {e : Expr} {es : List Expr} {t : TV} {ts : TVa} (h : VE X P E e t) (hs : VA X P E es ts) (hst : starEach (e :: es) X.env = (false, eval e X.env) :: starEach es X.env := by rfl) : VA X P E (e :: es) (vCons t ts) := by
  refine PA.asks (pa_cons h hs hst) fun σ H Q ⟨Γ, vh, R, Z, g, r, q, k, x⟩ => ?_
  refine ⟨Γ, vh, _, Z, g, r, q, fun u vh1 q1 v H1 s1 r1 => ?_, x⟩
  refine ⟨Γ, vh1, _, Z, g.stay s1.tup, s1.rel, q1, fun us vh2 q2 vs H2 s2 r2 => ?_, x.step s1⟩
  exact k _ _ q2 _ _ (s1.trans s2) (RelUs.cons (r1.stay s2.tup) r2)
def vTup (t : TVa) : TV := fun Γ vh R Z => t Γ vh (fun us vh1 => us.length ≤ sizeLine ∧ R (.tup us) vh1) Z
def vLst (t : TVa) : TV := fun Γ vh R Z => t Γ vh (fun us vh1 => us.length ≤ sizeLine ∧ ∀ p, vh1 p = none → R (.ref p) (vput vh1 p (.lst us))) Z
theorem ve_tup {es : List Expr} {t : TVa} {x1 pos} (h : VA X P E es t) : VE X P E (.Tuple es x1 pos) (vTup t) := by
  refine PE.asks (pe_tupF h) fun σ H Q ⟨Γ, vh, R, Z, g, r, q, k, x⟩ => ?_
  refine ⟨Γ, vh, _, Z, g, r, q, fun us vh1 q1 vs H1 s1 r1 => ⟨by rw [r1.len]; exact q1.1, fun p o n b => ?_⟩, x⟩
  have s2 : Stp (wd X P) H1 vh1 (upd H1 p (.frz o (.tup vs))) vh1 := Stp.new0 s1.rel n
  exact k _ _ q1.2 _ _ (s1.trans s2) ⟨p, vs, rfl, .inl ⟨o, upd_same, b⟩, r1.stay s2.tup⟩
theorem ve_lst {es : List Expr} {t : TVa} {pos} (h : VA X P E es t) : VE X P E (.List es pos) (vLst t) := by
  refine PE.asks (pe_lst h) fun σ H Q ⟨Γ, vh, R, Z, g, r, q, k, x⟩ => ?_
  refine ⟨Γ, vh, _, Z, g, r, q, fun us vh1 q1 vs H1 s1 r1 => ⟨by rw [r1.len]; exact q1.1, fun p n => ?_⟩, x⟩
  have st : TupStay H1 (upd H1 p (.lst vs)) := (Stp.new0 (o := .lst vs) s1.rel n).tup
  exact k _ _ (q1.2 p (s1.rel.fresh n)) _ _ (s1.trans (Stp.new s1.rel n ⟨vs, upd_same, r1.stay st⟩)) rfl

/-! ### two-place operations -/
/-- an operation on values -/
abbrev R2V := Option (Addr × List Int) → VH → U → U → (U → VH → Prop) → Prop
def vOp (r : Option (Addr × List Int) → R2V) (S : Option (Addr × List Int)) (ta tb : TV) : TV := fun Γ vh R Z => ta Γ vh (fun x vh1 => tb Γ vh1 (fun y vh2 => r S S vh2 x y R) Z) Z
/-- r (of values) is met by r' (of the heap) -/
def Met (X : Cx) (P : Pk) (r' : R2) (r : R2V) : Prop := ∀ (H : Hp) (vh : VH) (x y : U) (a b : V) (R : U → VH → Prop) (Q : VK), RelH (wd X P) H vh → RelU X.K H x a → RelU X.K H y b → r P.S vh x y R →
  (∀ u vh', R u vh' → ∀ v H', Stp (wd X P) H vh H' vh' → RelU X.K H' u v → Q v H') → r' a b H Q
def v2 (S : Option (Addr × List Int)) (r : R2V) (ta tb : TV) : TV := fun Γ vh R Z => ta Γ vh (fun x vh1 => tb Γ vh1 (fun y vh2 => r S vh2 x y R) Z) Z
theorem met_tOp {r' : R2} {r : R2V} {ta tb : TV} (m : Met X P r' r) : ∀ σ H Q, lE (wd X P) E (v2 P.S r ta tb) σ H Q → tOp r' (lE (wd X P) E ta) (lE (wd X P) E tb) σ H Q := by
  rintro σ H Q ⟨Γ, vh, R, Z, g, rh, q, k, x⟩
  refine ⟨Γ, vh, _, Z, g, rh, q, fun u vh1 q1 v H1 s1 r1 => ?_, x⟩
  refine ⟨Γ, vh1, _, Z, g.stay s1.tup, s1.rel, q1, fun w vh2 q2 y H2 s2 r2 => ?_, x.step s1⟩
  exact m H2 vh2 u w v y R Q s2.rel (r1.stay s2.tup) r2 q2 fun z vh3 q3 v3 H3 s3 r3 => k _ _ q3 _ _ ((s1.trans s2).trans s3) r3
theorem ve_op {op : Operator} {r' : R2} {r : R2V} {a b : Expr} {ta tb : TV} {pos : Pos} (ho : OpR X (binaryOp op) r') (m : Met X P r' r) (ha : VE X P E a ta) (hb : VE X P E b tb) : VE X P E (.BinOp a op b pos) (v2 P.S r ta tb) :=
  PE.asks (pe_op ho ha hb) (met_tOp m)
end
end VL

-- part V3
set_option Elab.async false
set_option linter.all false
set_option maxRecDepth 100000
set_option maxHeartbeats 4000000
/-! Layer V, part 3: operators, comparisons, subscripts, tests. -/
namespace VL
open PySem PySem.Spec PyProof.Rows L2

/-- a list of one's own -/
def ownL (vh : VH) : U → Option (Addr × List U)
  | .ref a => match vh a with
    | some (.lst us) => some (a, us)
    | _ => none
  | _ => none
theorem ownL.at {W : Wd} {H : Hp} {vh : VH} {x : U} {a : Addr} {us : List U} {v : V} (r : RelH W H vh) (h : ownL vh x = some (a, us)) (e : RelU W.K H x v) : v = .ref a ∧ vh a = some (.lst us) ∧ ∃ vs, H a = some (.lst vs) ∧ RelUs W.K H us vs := by
  cases x <;> try (simp [ownL] at h; done)
  rename_i b
  have e : v = .ref b := e
  subst e
  simp only [ownL] at h
  split at h
  · rename_i ws q
    cases h
    exact ⟨rfl, q, r.cel _ _ q⟩
  · cases h
/-- a new list -/
def newL (vh : VH) (us : List U) (R : U → VH → Prop) : Prop := ∀ p, vh p = none → R (.ref p) (vput vh p (.lst us))
theorem newL.met {W : Wd} {H : Hp} {vh : VH} {us : List U} {vs : List V} {R : U → VH → Prop} {Q : VK} {p : Addr} (r : RelH W H vh) (h : newL vh us R) (q : RelUs W.K H us vs)
    (k : ∀ u vh', R u vh' → ∀ v H', Stp W H vh H' vh' → RelU W.K H' u v → Q v H') (n : H p = none) : Q (.ref p) (upd H p (.lst vs)) :=
  k _ _ (h p (r.fresh n)) _ _ (Stp.new r n ⟨vs, upd_same, q.stay (Stp.new0 (o := .lst vs) r n).tup⟩) rfl
/-- a new tuple -/
theorem newT.met {W : Wd} {H : Hp} {vh : VH} {us : List U} {vs : List V} {R : U → VH → Prop} {Q : VK} (r : RelH W H vh) (h : R (.tup us) vh) (q : RelUs W.K H us vs)
    (k : ∀ u vh', R u vh' → ∀ v H', Stp W H vh H' vh' → RelU W.K H' u v → Q v H') : NewF H vs Q := fun p o n b => by
  have s := Stp.new0 (o := .frz o (.tup vs)) r n
  exact k _ _ h _ _ s ⟨p, vs, rfl, .inl ⟨o, upd_same, b⟩, q.stay s.tup⟩
/-- a new tuple that is only taken apart -/
theorem newW.met {W : Wd} {H : Hp} {vh : VH} {us : List U} {vs : List V} {R : U → VH → Prop} {Q : VK} {p : Addr} (r : RelH W H vh) (h : R (.tupw us) vh) (q : RelUs W.K H us vs)
    (k : ∀ u vh', R u vh' → ∀ v H', Stp W H vh H' vh' → RelU W.K H' u v → Q v H') (n : H p = none) : Q (.ref p) (upd H p (.tup vs)) := by
  have s := Stp.new0 (o := .tup vs) r n
  exact k _ _ h _ _ s ⟨p, vs, rfl, .inl (.inl upd_same), q.stay s.tup⟩

def addV : R2V := fun _ vh x y R => match x, y with
  | .int i, .int j => R (.int (i + j)) vh
  | .tup xs, .tup ys => xs.length + ys.length ≤ sizeLine ∧ R (.tup (xs ++ ys)) vh
  | .str a, .str b => a.length + b.length ≤ sizeLine ∧ R (.str (a ++ b)) vh
  | .ref a, .ref b => match ownL vh (.ref a), ownL vh (.ref b) with
    | some (_, xs), some (_, ys) => xs.length + ys.length ≤ sizeLine ∧ newL vh (xs ++ ys) R
    | _, _ => False
  | _, _ => False
def intsV (C : Int → Int → Prop) (f : Int → Int → Int) : R2V := fun _ vh x y R => match x, y with
  | .int i, .int j => C i j ∧ R (.int (f i j)) vh
  | _, _ => False
def ints0V (f : Int → Int → U) : R2V := fun _ vh x y R => match x, y with
  | .int i, .int j => R (f i j) vh
  | _, _ => False
section
variable {X : Cx} {P : Pk} {E : XK} {a b c : Expr} {ta tb tc : TV} {pos : Pos}
theorem met_ints {C : Int → Int → Prop} {f : Int → Int → Int} : Met X P (rI C fun i j => .int (f i j)) (intsV C f) := by
  intro H vh x y v w R Q r rx ry h k
  cases x <;> first | exact h.elim | skip
  cases y <;> first | exact h.elim | skip
  exact ⟨_, _, rx, ry, h.1, k _ _ h.2 _ _ (.refl r) rfl⟩
theorem met_ints0 {f : Int → Int → Int} : Met X P (rI0 fun i j => .int (f i j)) (ints0V fun i j => .int (f i j)) := by
  intro H vh x y v w R Q r rx ry h k
  cases x <;> first | exact h.elim | skip
  cases y <;> first | exact h.elim | skip
  exact ⟨_, _, rx, ry, k _ _ h _ _ (.refl r) rfl⟩
theorem met_intsB {f : Int → Int → Bool} : Met X P (rI0 fun i j => .bl (f i j)) (ints0V fun i j => .bl (f i j)) := by
  intro H vh x y v w R Q r rx ry h k
  cases x <;> first | exact h.elim | skip
  cases y <;> first | exact h.elim | skip
  exact ⟨_, _, rx, ry, k _ _ h _ _ (.refl r) rfl⟩
theorem op_addV : OpR X (binaryOp .Add) (fun x y H Q => (rI0 (fun i j => .int (i + j)) x y H Q ∨ rCatF X.K x y H Q) ∨ ((∃ i j, x = .str i ∧ y = .str j ∧ i.length + j.length ≤ sizeLine ∧ Q (.str (i ++ j)) H) ∨ rCat x y H Q)) :=
  (OpR.or op_add op_catF).or (OpR.or op_add_str op_cat)
theorem met_add : Met X P (fun x y H Q => (rI0 (fun i j => .int (i + j)) x y H Q ∨ rCatF X.K x y H Q) ∨ ((∃ i j, x = .str i ∧ y = .str j ∧ i.length + j.length ≤ sizeLine ∧ Q (.str (i ++ j)) H) ∨ rCat x y H Q)) addV := by
  intro H vh x y v w R Q r rx ry h k
  cases x <;> cases y <;> first | exact h.elim | skip
  · exact .inl (.inl ⟨_, _, rx, ry, k _ _ h _ _ (.refl r) rfl⟩)
  · exact .inr (.inl ⟨_, _, rx, ry, h.1, k _ _ h.2 _ _ (.refl r) rfl⟩)
  · obtain ⟨p, xs, rfl, sx, qx⟩ := rx
    obtain ⟨q, ys, rfl, sy, qy⟩ := ry
    refine .inl (.inr ⟨p, q, xs, ys, rfl, rfl, sx.t, sy.t, by rw [qx.len, qy.len]; exact h.1, fun e => ?_, fun _ e => ?_, fun _ _ => newT.met r h.2 (qx.app qy) k⟩)
    · subst e
      exact k _ _ h.2 _ _ (.refl r) ⟨q, ys, rfl, sy, by simpa using qx.app qy⟩
    · subst e
      exact k _ _ h.2 _ _ (.refl r) ⟨p, xs, rfl, sx, by simpa using qx.app qy⟩
  · rename_i p q
    simp only [addV] at h
    split at h
    · rename_i _ xs _ ys e1 e2
      obtain ⟨g1, _, vs, ev, qv⟩ := ownL.at r e1 rx
      obtain ⟨g2, _, ws, ew, qw⟩ := ownL.at r e2 ry
      subst g1 g2
      exact .inr (.inr ⟨_, _, vs, ws, rfl, rfl, ev, ew, by rw [qv.len, qw.len]; exact h.1, fun z n => newL.met r h.2 (qv.app qw) k n⟩)
    · exact h.elim
theorem ve_add (ha : VE X P E a ta) (hb : VE X P E b tb) : VE X P E (.BinOp a .Add b pos) (v2 P.S addV ta tb) := ve_op op_addV met_add ha hb
theorem ve_sub (ha : VE X P E a ta) (hb : VE X P E b tb) : VE X P E (.BinOp a .Sub b pos) (v2 P.S (ints0V fun i j => .int (i - j)) ta tb) := ve_op op_sub met_ints0 ha hb
theorem ve_fdiv (ha : VE X P E a ta) (hb : VE X P E b tb) : VE X P E (.BinOp a .FloorDiv b pos) (v2 P.S (intsV CDivN Int.fdiv) ta tb) := ve_op op_fdivN met_ints ha hb
theorem ve_mod (ha : VE X P E a ta) (hb : VE X P E b tb) : VE X P E (.BinOp a .Mod b pos) (v2 P.S (intsV (fun _ j => j ≠ 0) Int.fmod) ta tb) := ve_op op_modN met_ints ha hb
theorem ve_pow (ha : VE X P E a ta) (hb : VE X P E b tb) : VE X P E (.BinOp a .Pow b pos) (v2 P.S (intsV CPow fun i j => i ^ j.toNat) ta tb) := ve_op op_pow met_ints ha hb
/-- *: ints; a list or a tuple times an int -/
def mulV : R2V := fun _ vh x y R => match x, y with
  | .int i, .int j => CMul i j ∧ R (.int (i * j)) vh
  | .tup us, .int k => us ≠ [] ∧ 2 ≤ k ∧ k ≤ 1000 ∧ us.length ≤ 1000 ∧ R (.tupw (List.replicate k.toNat us).flatten) vh
  | .ref a, .int k => match ownL vh (.ref a) with
    | some (_, us) => -(2 ^ 63) ≤ k ∧ k < 2 ^ 63 ∧ us.length * k.toNat ≤ sizeLine ∧ newL vh (List.replicate k.toNat us).flatten R
    | _ => False
  | _, _ => False
theorem RelUs.rep {K : PySem.W.Frag} {H : Hp} {us : List U} {vs : List V} (h : RelUs K H us vs) : ∀ n : Nat, RelUs K H (List.replicate n us).flatten (List.replicate n vs).flatten
  | 0 => by simp; exact RelUs.nil
  | n + 1 => by
    rw [List.replicate_succ, List.replicate_succ, List.flatten_cons, List.flatten_cons]
    exact h.app (RelUs.rep h n)
theorem met_mul : Met X P (fun x y H Q => rI CMul (fun i j => .int (i * j)) x y H Q ∨ (rRepT X.K x y H Q ∨ rRep x y H Q)) mulV := by
  intro H vh x y v w R Q r rx ry h k
  cases x <;> cases y <;> first | exact h.elim | skip
  · exact .inl ⟨_, _, rx, ry, h.1, k _ _ h.2 _ _ (.refl r) rfl⟩
  · obtain ⟨p, xs, rfl, sx, qx⟩ := rx
    obtain ⟨h1, h2, h3, h4, h5⟩ := h
    refine .inr (.inl ⟨p, _, xs, rfl, ry, sx.t, fun e => h1 ?_, h2, h3, by rw [qx.len]; exact h4, fun z n => newW.met r h5 (RelUs.rep qx _) k n⟩)
    subst e
    exact List.eq_nil_of_length_eq_zero qx.len.symm
  · simp only [mulV] at h
    split at h
    · rename_i _ xs e1
      obtain ⟨g1, _, vs, ev, qv⟩ := ownL.at r e1 rx
      obtain ⟨h1, h2, h3, h4⟩ := h
      subst g1
      exact .inr (.inr ⟨_, _, vs, rfl, ry, ev, h1, h2, by rw [qv.len]; exact h3, fun z n => newL.met r h4 (RelUs.rep qv _) k n⟩)
    · exact h.elim
theorem ve_mul (ha : VE X P E a ta) (hb : VE X P E b tb) : VE X P E (.BinOp a .Mult b pos) (v2 P.S mulV ta tb) := ve_op (op_mul.or (op_repT.or op_rep)) met_mul ha hb
def vNeg (t : TV) : TV := fun Γ vh R Z => t Γ vh (fun u vh1 => match u with
  | .int i => R (.int (-i)) vh1
  | _ => False) Z
theorem ve_neg (ha : VE X P E a ta) : VE X P E (.UnaryOp .USub a pos) (vNeg ta) := by
  refine PE.asks (pe_un un_neg ha) fun σ H Q ⟨Γ, vh, R, Z, g, r, q, k, x⟩ => ⟨Γ, vh, _, Z, g, r, q, fun u vh1 q1 v H1 s1 r1 => ?_, x⟩
  cases u <;> first | exact q1.elim | skip
  exact ⟨_, r1, k _ _ q1 _ _ s1 rfl⟩

/-! ### comparisons -/
abbrev ltV : R2V := ints0V fun i j => .bl (decide (i < j))
abbrev leV : R2V := ints0V fun i j => .bl (decide (i ≤ j))
abbrev gtV : R2V := ints0V fun i j => .bl (decide (j < i))
abbrev geV : R2V := ints0V fun i j => .bl (decide (j ≤ i))
def eqV' : R2V := fun S vh x y R => eqR S vh x y fun b => R (.bl b) vh
def neV' : R2V := fun S vh x y R => eqR S vh x y fun b => R (.bl (!b)) vh
theorem eqR.mono {S : Option (Addr × List Int)} {vh : VH} {x y : U} {k k' : Bool → Prop} (h : eqR S vh x y k) (i : ∀ b, k b → k' b) : eqR S vh x y k' := by
  unfold eqR at h ⊢
  split at h <;> exact ⟨h.1, h.2.1, i _ h.2.2⟩
theorem met_eq : Met X P (rEqD X.K) eqV' := by
  intro H vh x y v w R Q r rx ry h k
  obtain ⟨d, e, h1, h2, h3, h4, h5⟩ := eqR.pd r h rx ry
  exact ⟨d, e, h1, h2, h3, h4, k _ _ h5 _ _ (.refl r) rfl⟩
theorem met_ne : Met X P (rNeD X.K) neV' := by
  intro H vh x y v w R Q r rx ry h k
  obtain ⟨d, e, h1, h2, h3, h4, h5⟩ := eqR.pd r h rx ry
  exact ⟨d, e, h1, h2, h3, h4, k _ _ h5 _ _ (.refl r) rfl⟩
/-- what `in` walks: a list or a tuple -/
def asSq (S : Option (Addr × List Int)) (vh : VH) : U → Option (List U)
  | .tup us => some us
  | .tupw us => some us
  | .sta _ => none
  | x => asL S vh x
def inU (x : U) (us : List U) : Bool := us.any fun z => eqU z x
def inV' (neg : Bool) : R2V := fun S vh x y R => match asSq S vh y with
  | some us => okD 9 x = true ∧ okDs 9 us = true ∧ R (.bl (if neg then !inU x us else inU x us)) vh
  | none => False
theorem any_pd {x : U} {n : Nat} (hx : okD n x = true) : ∀ {us : List U}, okDs n us = true → ((pdUs us).any fun z => PyData.eqv z (pdU x)) = inU x us
  | [], _ => by simp [pdUs, inU]
  | u :: us, h => by
    have h : okD n u = true ∧ okDs n us = true := by simpa [okDs] using h
    have := any_pd hx h.2
    simp only [pdUs, List.any_cons, inU] at this ⊢
    rw [this, eqU.pd h.1 hx]
/-- in, not in, of data: lists by HandS, tuples here -/
def rInTD (K : PySem.W.Frag) (neg : Bool) : R2 := fun x y H Q => ∃ d ds, Dp K H x d ∧ Dp K H y (.tuple ds) ∧ SeqAt.shaped d = true ∧ SeqAt.shaped (.tuple ds) = true ∧ Q (.bl (if neg then !ds.any (fun z => PyData.eqv z d) else ds.any fun z => PyData.eqv z d)) H
theorem roomT {u : Nat} {ds : List PyData} {d : PyData} (h : SeqAt.shaped (.tuple ds) = true) (hu : u + 65 < cLine) : u + 1 + min (PyData.depthAll ds) d.depth < cLine := by
  have h : (PyData.canLay0 (.tuple ds) && decide (PyData.depth (.tuple ds) ≤ 64)) = true := h
  rw [Bool.and_eq_true] at h
  have q := of_decide_eq_true h.2
  simp only [PyData.depth] at q
  omega
theorem op_inTD (hu : X.A.units + 65 < cLine) : OpR X (compareOp .In) (rInTD X.K false) := by
  intro pins s σ H x y v u Q I rx ry h
  obtain ⟨d, ds, hd, he, sd, se, q⟩ := h
  obtain ⟨as, r1⟩ := Dp.reads I d x v hd rx
  obtain ⟨bs, r2⟩ := Dp.reads I (.tuple ds) y u he ry
  exact SeqAt.in_tuple_reads r2 r1 (SeqAt.canLay_of_shaped se) (SeqAt.canLay_of_shaped sd) (roomT se hu) ⟨.bl _, H, I, rfl, q⟩
theorem op_notInTD (hu : X.A.units + 65 < cLine) : OpR X (compareOp .NotIn) (rInTD X.K true) := by
  intro pins s σ H x y v u Q I rx ry h
  obtain ⟨d, ds, hd, he, sd, se, q⟩ := h
  obtain ⟨as, r1⟩ := Dp.reads I d x v hd rx
  obtain ⟨bs, r2⟩ := Dp.reads I (.tuple ds) y u he ry
  exact SeqAt.notIn_tuple_reads r2 r1 (SeqAt.canLay_of_shaped se) (SeqAt.canLay_of_shaped sd) (roomT se hu) ⟨.bl _, H, I, rfl, q⟩
theorem inV'.pd {neg : Bool} {W : Wd} {H : Hp} {vh : VH} {x y : U} {a b : V} {R : U → VH → Prop} (r : RelH W H vh) (h : inV' neg W.S vh x y R) (ha : RelU W.K H x a) (hb : RelU W.K H y b) :
    ∃ d ds, Dp W.K H a d ∧ SeqAt.shaped d = true ∧ SeqAt.shaped (.list ds) = true ∧ SeqAt.shaped (.tuple ds) = true ∧ (Dp W.K H b (.list ds) ∨ Dp W.K H b (.tuple ds)) ∧ R (.bl (if neg then !ds.any (fun z => PyData.eqv z d) else ds.any fun z => PyData.eqv z d)) vh := by
  unfold inV' at h
  split at h
  · rename_i us e
    obtain ⟨o1, o2, q⟩ := h
    have p := okDs.pd o2
    have p1 := okD.pd o1
    refine ⟨_, _, RelU.dp o1 ha, shaped_of p1.1 p1.2, shaped_of (n := 10) (by simpa [PyData.canLay0] using p.1) (by simp only [PyData.depth]; omega), shaped_of (n := 10) (by simpa [PyData.canLay0] using p.1) (by simp only [PyData.depth]; omega), ?_, by rw [any_pd o1 o2]; exact q⟩
    cases y with
    | tup ws =>
      obtain rfl : ws = us := Option.some.inj e
      obtain ⟨c, vs, rfl, s, q2⟩ := hb
      exact .inr (.tup s.t (RelUs.dp o2 q2))
    | tupw ws =>
      obtain rfl : ws = us := Option.some.inj e
      obtain ⟨c, vs, rfl, s, q2⟩ := hb
      exact .inr (.tup s (RelUs.dp o2 q2))
    | sta _ => simp [asSq] at e
    | _ =>
      simp only [asSq] at e
      obtain ⟨c, vs, rfl, s, q2⟩ := asL.sq r e hb
      exact .inl (.lst s (RelUs.dp o2 q2))
  · exact h.elim
theorem met_in : Met X P (fun x y H Q => rInD X.K x y H Q ∨ rInTD X.K false x y H Q) (inV' false) := by
  intro H vh x y v w R Q r rx ry h k
  obtain ⟨d, ds, h1, h2, h3, h3', h4, h5⟩ := inV'.pd r h rx ry
  rcases h4 with h4 | h4
  · exact .inl ⟨d, ds, h1, h4, h2, h3, k _ _ h5 _ _ (.refl r) rfl⟩
  · exact .inr ⟨d, ds, h1, h4, h2, h3', k _ _ h5 _ _ (.refl r) rfl⟩
theorem met_notIn : Met X P (fun x y H Q => rNotInD X.K x y H Q ∨ rInTD X.K true x y H Q) (inV' true) := by
  intro H vh x y v w R Q r rx ry h k
  obtain ⟨d, ds, h1, h2, h3, h3', h4, h5⟩ := inV'.pd r h rx ry
  rcases h4 with h4 | h4
  · exact .inl ⟨d, ds, h1, h4, h2, h3, k _ _ h5 _ _ (.refl r) rfl⟩
  · exact .inr ⟨d, ds, h1, h4, h2, h3', k _ _ h5 _ _ (.refl r) rfl⟩
/-- is None, is of bools -/
def isNon : U → Bool
  | .non => true
  | _ => false
def isV (neg : Bool) : R2V := fun _ vh x y R => match x, y with
  | x, .non => R (.bl (if neg then !isNon x else isNon x)) vh
  | .bl i, .bl j => R (.bl (if neg then !decide (i = j) else decide (i = j))) vh
  | _, _ => False
theorem isNon_rel {K : PySem.W.Frag} {H : Hp} {x : U} {v : V} (h : RelU K H x v) : decide (v = .non) = isNon x := by
  cases x <;> first | (cases (show v = _ from h); rfl) | skip
  all_goals
    first
      | (obtain ⟨a, vs, rfl, _⟩ := h; rfl)
      | (obtain ⟨a, rfl, _⟩ := h; rfl)
theorem met_is : Met X P (fun x y H Q => (y = .non ∧ Q (.bl (decide (x = .non))) H) ∨ rIsB x y H Q) (isV false) := by
  intro H vh x y v w R Q r rx ry h k
  cases y with
  | non => exact .inl ⟨ry, k (.bl (isNon x)) vh (by cases x <;> exact h) _ H (.refl r) (by rw [isNon_rel rx]; rfl)⟩
  | bl j =>
    cases x <;> first | exact h.elim | skip
    exact .inr ⟨_, j, rx, ry, k _ _ h _ _ (.refl r) rfl⟩
  | _ => cases x <;> exact h.elim
theorem met_isNot : Met X P (fun x y H Q => (y = .non ∧ Q (.bl (!decide (x = .non))) H) ∨ rNotB x y H Q) (isV true) := by
  intro H vh x y v w R Q r rx ry h k
  cases y with
  | non => exact .inl ⟨ry, k (.bl (!isNon x)) vh (by cases x <;> exact h) _ H (.refl r) (by rw [isNon_rel rx]; rfl)⟩
  | bl j =>
    cases x <;> first | exact h.elim | skip
    exact .inr ⟨_, j, rx, ry, k _ _ h _ _ (.refl r) rfl⟩
  | _ => cases x <;> exact h.elim
/-- an operator of comparison with its reading -/
structure CmpR (X : Cx) (P : Pk) (op : CmpOp) (r : R2V) : Prop where
  ex : ∃ r' : R2, OpR X (compareOp op) r' ∧ Met X P r' r
theorem c_lt : CmpR X P .Lt ltV := ⟨_, op_lt, met_intsB⟩
theorem c_le : CmpR X P .LtE leV := ⟨_, op_le, met_intsB⟩
theorem c_gt : CmpR X P .Gt gtV := ⟨_, op_gt, met_intsB⟩
theorem c_ge : CmpR X P .GtE geV := ⟨_, op_ge, met_intsB⟩
theorem c_eq (hu : X.A.units + 65 < cLine) : CmpR X P .Eq eqV' := ⟨_, op_eqD (by omega), met_eq⟩
theorem c_ne (hu : X.A.units + 65 < cLine) : CmpR X P .NotEq neV' := ⟨_, op_neD (by omega), met_ne⟩
theorem c_in (hu : X.A.units + 65 < cLine) : CmpR X P .In (inV' false) := ⟨_, (op_inD hu).or (op_inTD hu), met_in⟩
theorem c_notIn (hu : X.A.units + 65 < cLine) : CmpR X P .NotIn (inV' true) := ⟨_, (op_notInD hu).or (op_notInTD hu), met_notIn⟩
theorem c_is : CmpR X P .Is (isV false) := ⟨_, op_isN.or op_isBl, met_is⟩
theorem c_isNot : CmpR X P .IsNot (isV true) := ⟨_, op_notN.or op_notBl, met_isNot⟩
theorem ve_cmp {op : CmpOp} {r : R2V} (c : CmpR X P op r) (ha : VE X P E a ta) (hb : VE X P E b tb) (hm : behindInMarks op b = false := by first | exact nomark _ | rfl | with_unfolding_all rfl) : VE X P E (.Compare a [op] [b] pos) (v2 P.S r ta tb) := by
  obtain ⟨r', ho, m⟩ := c.ex
  exact PE.asks (pe_cmpR ho ha hb hm) (met_tOp m)
/-- a value as a test -/
def vTest (t : TV) : TVb := fun Γ vh R Z => t Γ vh (fun u vh1 => match u with
  | .bl b => R b vh1
  | _ => False) Z
theorem met_test {t' : TE} {t : TV} (h : ∀ σ H Q, lE (wd X P) E t σ H Q → t' σ H Q) : ∀ σ H (Q : Bool → Hp → Prop), lT (wd X P) E (vTest t) σ H Q → tTest t' σ H Q := by
  rintro σ H Q ⟨Γ, vh, R, Z, g, r, q, k, x⟩
  refine h σ H _ ⟨Γ, vh, _, Z, g, r, q, fun u vh1 q1 v H1 s1 r1 => ?_, x⟩
  cases u <;> first | exact q1.elim | skip
  exact ⟨_, r1, k _ _ q1 _ s1⟩
theorem vt_cmp {op : CmpOp} {r : R2V} (c : CmpR X P op r) (ha : VE X P E a ta) (hb : VE X P E b tb) (hm : behindInMarks op b = false := by first | exact nomark _ | rfl | with_unfolding_all rfl) : VT X P E (.Compare a [op] [b] pos) (vTest (v2 P.S r ta tb)) := by
  obtain ⟨r', ho, m⟩ := c.ex
  exact PT.asks (pt_cmpR ho ha hb hm) (met_test (met_tOp m))
/-- a chain of two -/
def vChain (S : Option (Addr × List Int)) (r r' : R2V) (ta tb tc : TV) : TV := fun Γ vh R Z => ta Γ vh (fun x vh1 => tb Γ vh1 (fun y vh2 => r S vh2 x y fun z vh3 => match z with
  | .bl true => tc Γ vh3 (fun w vh4 => r' S vh4 y w R) Z
  | .bl false => R (.bl false) vh3
  | _ => False) Z) Z
theorem met_chain {r1 r1' : R2} {r r' : R2V} (m : Met X P r1 r) (m' : Met X P r1' r') : ∀ σ H Q, lE (wd X P) E (vChain P.S r r' ta tb tc) σ H Q → tChain r1 r1' (lE (wd X P) E ta) (lE (wd X P) E tb) (lE (wd X P) E tc) σ H Q := by
  rintro σ H Q ⟨Γ, vh, R, Z, g, rh, q, k, x⟩
  refine ⟨Γ, vh, _, Z, g, rh, q, fun u vh1 q1 v H1 s1 r1 => ?_, x⟩
  refine ⟨Γ, vh1, _, Z, g.stay s1.tup, s1.rel, q1, fun w vh2 q2 y H2 s2 r2 => ?_, x.step s1⟩
  refine m H2 vh2 u w v y _ _ s2.rel (r1.stay s2.tup) r2 q2 fun z vh3 q3 v3 H3 s3 r3 => ?_
  cases z <;> first | exact q3.elim | skip
  rename_i bb
  refine ⟨bb, r3, ?_⟩
  cases bb with
  | false => exact k _ _ q3 _ _ ((s1.trans s2).trans s3) rfl
  | true =>
    refine ⟨Γ, vh3, _, Z, (g.stay s1.tup).stay (s2.trans s3).tup, s3.rel, q3, fun w4 vh4 q4 y4 H4 s4 r4 => ?_, (x.step s1).step (s2.trans s3)⟩
    exact m' H4 vh4 w w4 y y4 R Q s4.rel (r2.stay (s3.trans s4).tup) r4 q4 fun z5 vh5 q5 v5 H5 s5 r5 => k _ _ q5 _ _ ((((s1.trans s2).trans s3).trans s4).trans s5) r5
theorem ve_chain {op op' : CmpOp} {r r' : R2V} (h : CmpR X P op r) (h' : CmpR X P op' r') (ha : VE X P E a ta) (hb : VE X P E b tb) (hc : VE X P E c tc) (hm : lastMarks [op, op'] [b, c] = false := by with_unfolding_all rfl) :
    VE X P E (.Compare a [op, op'] [b, c] pos) (vChain P.S r r' ta tb tc) := by
  obtain ⟨r1, ho, m⟩ := h.ex
  obtain ⟨r2, ho', m'⟩ := h'.ex
  exact PE.asks (pe_chain ho ho' ha hb hc hm) (met_chain m m')
theorem vt_chain {op op' : CmpOp} {r r' : R2V} (h : CmpR X P op r) (h' : CmpR X P op' r') (ha : VE X P E a ta) (hb : VE X P E b tb) (hc : VE X P E c tc) (hm : lastMarks [op, op'] [b, c] = false := by with_unfolding_all rfl) :
    VT X P E (.Compare a [op, op'] [b, c] pos) (vTest (vChain P.S r r' ta tb tc)) := by
  obtain ⟨r1, ho, m⟩ := h.ex
  obtain ⟨r2, ho', m'⟩ := h'.ex
  exact PT.asks (pt_chain ho ho' ha hb hc hm) (met_test (met_chain m m'))

/-! ### and, or, not, if else -/
theorem vt_val (ha : VE X P E a ta) (he : ∀ whole, isTrue a X.env whole = (do let v ← whole; standAt a.pos; holding [v] (truthy v)) := by intro _; rfl) : VT X P E a (vTest ta) := by
  refine PT.asks (pt_val ha he) fun σ H Q ⟨Γ, vh, R, Z, g, r, q, k, x⟩ => ⟨Γ, vh, _, Z, g, r, q, fun u vh1 q1 v H1 s1 r1 => ?_, x⟩
  cases u <;> first | exact q1.elim | skip
  exact ⟨_, r1, k _ _ q1 _ s1⟩
abbrev VW (X : Cx) (P : Pk) (E : XK) (e : Expr) (t : TVb) : Prop := PW X e (lT (wd X P) E t)
theorem PW.asks {X : Cx} {e : Expr} {t u : TT} (h : PW X e t) (i : ∀ σ H Q, u σ H Q → t σ H Q) : PW X e u := ⟨fun whole pins s σ H Q I w => h.run whole pins s σ H Q I (i σ H Q w)⟩
variable {qa qb : TVb} {rest : List Expr}
def vAnd (ta tb : TVb) : TVb := fun Γ vh R Z => ta Γ vh (fun c vh1 => if c = true then tb Γ vh1 R Z else R false vh1) Z
def vOr (ta tb : TVb) : TVb := fun Γ vh R Z => ta Γ vh (fun c vh1 => if c = true then R true vh1 else tb Γ vh1 R Z) Z
def vNot (t : TVb) : TVb := fun Γ vh R Z => t Γ vh (fun c vh1 => R (!c) vh1) Z
theorem vw_and1 (ha : VT X P E a qa) : VW X P E (.BoolOp .And [a] pos) qa := pw_and1 ha
theorem vw_or1 (ha : VT X P E a qa) : VW X P E (.BoolOp .Or [a] pos) qa := pw_or1 ha
theorem vw_and (ha : VT X P E a qa) (hb : VW X P E (.BoolOp .And (b :: rest) pos) qb) : VW X P E (.BoolOp .And (a :: b :: rest) pos) (vAnd qa qb) := by
  refine PW.asks (pw_and ha hb) fun σ H Q ⟨Γ, vh, R, Z, g, r, q, k, x⟩ => ⟨Γ, vh, _, Z, g, r, q, fun u vh1 q1 H1 s1 => ?_, x⟩
  cases u with
  | true => exact ⟨Γ, vh1, _, Z, g.stay s1.tup, s1.rel, q1, fun w vh2 q2 H2 s2 => k _ _ q2 _ (s1.trans s2), x.step s1⟩
  | false => exact k _ _ q1 _ s1
theorem vw_or (ha : VT X P E a qa) (hb : VW X P E (.BoolOp .Or (b :: rest) pos) qb) : VW X P E (.BoolOp .Or (a :: b :: rest) pos) (vOr qa qb) := by
  refine PW.asks (pw_or ha hb) fun σ H Q ⟨Γ, vh, R, Z, g, r, q, k, x⟩ => ⟨Γ, vh, _, Z, g, r, q, fun u vh1 q1 H1 s1 => ?_, x⟩
  cases u with
  | false => exact ⟨Γ, vh1, _, Z, g.stay s1.tup, s1.rel, q1, fun w vh2 q2 H2 s2 => k _ _ q2 _ (s1.trans s2), x.step s1⟩
  | true => exact k _ _ q1 _ s1
theorem vt_w (h : VW X P E a qa) : VT X P E a qa := h.pt
theorem vt_not (ha : VT X P E a qa) : VT X P E (.UnaryOp .Not a pos) (vNot qa) := by
  refine PT.asks (pt_not ha) fun σ H Q ⟨Γ, vh, R, Z, g, r, q, k, x⟩ => ⟨Γ, vh, _, Z, g, r, q, fun u vh1 q1 H1 s1 => k _ _ q1 _ s1, x⟩
def vAndV (ta tb : TV) : TV := fun Γ vh R Z => ta Γ vh (fun u vh1 => match u with
  | .bl true => tb Γ vh1 R Z
  | .bl false => R (.bl false) vh1
  | _ => False) Z
def vOrV (ta tb : TV) : TV := fun Γ vh R Z => ta Γ vh (fun u vh1 => match u with
  | .bl true => R (.bl true) vh1
  | .bl false => tb Γ vh1 R Z
  | _ => False) Z
def vNotV (ta : TV) : TV := fun Γ vh R Z => ta Γ vh (fun u vh1 => match u with
  | .bl b => R (.bl (!b)) vh1
  | _ => False) Z
theorem ve_one {op} (h : VE X P E a ta) : VE X P E (.BoolOp op [a] pos) ta := pe_one h
theorem ve_and (ha : VE X P E a ta) (hb : VE X P E (.BoolOp .And (b :: rest) pos) tb) : VE X P E (.BoolOp .And (a :: b :: rest) pos) (vAndV ta tb) := by
  refine PE.asks (pe_and ha hb) fun σ H Q ⟨Γ, vh, R, Z, g, r, q, k, x⟩ => ⟨Γ, vh, _, Z, g, r, q, fun u vh1 q1 v H1 s1 r1 => ?_, x⟩
  cases u <;> first | exact q1.elim | skip
  rename_i c
  refine ⟨c, r1, ?_⟩
  cases c with
  | true => exact ⟨Γ, vh1, _, Z, g.stay s1.tup, s1.rel, q1, fun w vh2 q2 v2 H2 s2 r2 => k _ _ q2 _ _ (s1.trans s2) r2, x.step s1⟩
  | false => exact k _ _ q1 _ _ s1 rfl
theorem ve_or (ha : VE X P E a ta) (hb : VE X P E (.BoolOp .Or (b :: rest) pos) tb) : VE X P E (.BoolOp .Or (a :: b :: rest) pos) (vOrV ta tb) := by
  refine PE.asks (pe_or ha hb) fun σ H Q ⟨Γ, vh, R, Z, g, r, q, k, x⟩ => ⟨Γ, vh, _, Z, g, r, q, fun u vh1 q1 v H1 s1 r1 => ?_, x⟩
  cases u <;> first | exact q1.elim | skip
  rename_i c
  refine ⟨c, r1, ?_⟩
  cases c with
  | false => exact ⟨Γ, vh1, _, Z, g.stay s1.tup, s1.rel, q1, fun w vh2 q2 v2 H2 s2 r2 => k _ _ q2 _ _ (s1.trans s2) r2, x.step s1⟩
  | true => exact k _ _ q1 _ _ s1 rfl
theorem ve_not (ha : VE X P E a ta) : VE X P E (.UnaryOp .Not a pos) (vNotV ta) := by
  refine PE.asks (pe_not ha) fun σ H Q ⟨Γ, vh, R, Z, g, r, q, k, x⟩ => ⟨Γ, vh, _, Z, g, r, q, fun u vh1 q1 v H1 s1 r1 => ?_, x⟩
  cases u <;> first | exact q1.elim | skip
  exact ⟨_, r1, k _ _ q1 _ _ s1 rfl⟩
def vIf (t : TVb) (ta tb : TV) : TV := fun Γ vh R Z => t Γ vh (fun c vh1 => if c = true then ta Γ vh1 R Z else tb Γ vh1 R Z) Z
theorem ve_if (hc : VT X P E c qa) (ha : VE X P E a ta) (hb : VE X P E b tb) : VE X P E (.IfExp c a b pos) (vIf qa ta tb) := by
  refine PE.asks (pe_ifExp hc ha hb) fun σ H Q ⟨Γ, vh, R, Z, g, r, q, k, x⟩ => ⟨Γ, vh, _, Z, g, r, q, fun u vh1 q1 H1 s1 => ?_, x⟩
  cases u with
  | true => exact ⟨Γ, vh1, _, Z, g.stay s1.tup, s1.rel, q1, fun w vh2 q2 v2 H2 s2 r2 => k _ _ q2 _ _ (s1.trans s2) r2, x.step s1⟩
  | false => exact ⟨Γ, vh1, _, Z, g.stay s1.tup, s1.rel, q1, fun w vh2 q2 v2 H2 s2 r2 => k _ _ q2 _ _ (s1.trans s2) r2, x.step s1⟩

/-! ### subscripts -/
def ixV : R2V := fun S vh x y R => match y with
  | .int i => match asSq S vh x with
    | some us => match atI us i with
      | some u => R u vh
      | none => False
    | none => False
  | _ => False
theorem RelUs.atI {K : PySem.W.Frag} {H : Hp} {us : List U} {vs : List V} {i : Int} {u : U} (h : RelUs K H us vs) (e : L2.atI us i = some u) : ∃ v, L2.atI vs i = some v ∧ RelU K H u v := by
  unfold L2.atI at e ⊢
  rw [h.len]
  cases hj : ixN us.length i with
  | none => rw [hj] at e; cases e
  | some j =>
    rw [hj] at e
    obtain ⟨v, e1, r⟩ := h.get (i := j) (u := u) e
    exact ⟨v, e1, r⟩
theorem met_ix : Met X P (fun x y H Q => rIxL X.K x y H Q ∨ rIxT X.K x y H Q) ixV := by
  intro H vh x y v w R Q r rx ry h k
  unfold ixV at h
  cases y <;> first | exact h.elim | skip
  rename_i i
  simp only at h
  split at h
  · rename_i us e
    split at h
    · rename_i u eu
      cases x with
      | tup ws =>
        obtain rfl : ws = us := Option.some.inj e
        obtain ⟨c, vs, rfl, s, q2⟩ := rx
        obtain ⟨z, ez, rz⟩ := q2.atI eu
        exact .inr ⟨c, vs, i, z, rfl, ry, s.t, ez, k _ _ h _ _ (.refl r) rz⟩
      | tupw ws =>
        obtain rfl : ws = us := Option.some.inj e
        obtain ⟨c, vs, rfl, s, q2⟩ := rx
        obtain ⟨z, ez, rz⟩ := q2.atI eu
        exact .inr ⟨c, vs, i, z, rfl, ry, s, ez, k _ _ h _ _ (.refl r) rz⟩
      | sta _ => simp [asSq] at e
      | _ =>
        simp only [asSq] at e
        obtain ⟨c, vs, rfl, s, q2⟩ := asL.sq (W := wd X P) r e rx
        obtain ⟨z, ez, rz⟩ := q2.atI eu
        exact .inl ⟨c, vs, i, z, rfl, ry, s, ez, k _ _ h _ _ (.refl r) rz⟩
    · exact h.elim
  · exact h.elim
theorem ve_ix (ha : VE X P E a ta) (hb : VE X P E b tb) (hs : PlainIx b := by exact fun _ _ => rfl) : VE X P E (.Subscript a b pos) (v2 P.S ixV ta tb) := PE.asks (pe_ix (ix_list.or ix_tup) ha hb hs) (met_tOp met_ix)
/-- a part of a slice -/
abbrev TVo := EV → VH → (Option Int → VH → Prop) → XV → Prop
def lO (W : Wd) (E : XK) (t : TVo) : TO := fun σ H Q => ∃ Γ vh R Z, RelG W.K H Γ σ ∧ RelH W H vh ∧ t Γ vh R Z ∧ (∀ b vh', R b vh' → ∀ H', Stp W H vh H' vh' → Q b H') ∧ LX W E H vh Z
abbrev VO (X : Cx) (P : Pk) (E : XK) (e : Option Expr) (t : TVo) : Prop := PO X e (lO (wd X P) E t)
theorem PO.asks {X : Cx} {e : Option Expr} {t u : TO} (h : PO X e t) (i : ∀ σ H Q, u σ H Q → t σ H Q) : PO X e u := ⟨fun pins s σ H Q I w => h.run pins s σ H Q I (i σ H Q w)⟩
def vNo : TVo := fun _ vh R _ => R none vh
def vPart (t : TV) : TVo := fun Γ vh R Z => t Γ vh (fun u vh1 => match u with
  | .int i => R (some i) vh1
  | _ => False) Z
theorem vo_none : VO X P E none vNo := PO.asks po_none fun σ H Q ⟨Γ, vh, R, Z, g, r, q, k, x⟩ => k _ _ q _ (.refl r)
theorem vo_some (h : VE X P E a ta) : VO X P E (some a) (vPart ta) := by
  refine PO.asks (po_some h) fun σ H Q ⟨Γ, vh, R, Z, g, r, q, k, x⟩ => ⟨Γ, vh, _, Z, g, r, q, fun u vh1 q1 v H1 s1 r1 => ?_, x⟩
  cases u <;> first | exact q1.elim | skip
  exact ⟨_, r1, k _ _ q1 _ s1⟩
def cutU (xs : List U) (lo hi : Option Int) : List U := (xs.drop (HT.sIx xs.length 0 lo)).take (HT.sIx xs.length xs.length hi - HT.sIx xs.length 0 lo)
theorem RelUs.cut {K : PySem.W.Frag} {H : Hp} {us : List U} {vs : List V} (h : RelUs K H us vs) (lo hi : Option Int) : RelUs K H (cutU us lo hi) (cutV vs lo hi) := by
  unfold cutU cutV
  rw [h.len]
  exact (h.dr _).tk _
def sliceV (S : Option (Addr × List Int)) (vh : VH) (x : U) (lo hi : Option Int) (R : U → VH → Prop) : Prop := match x with
  | .tup us => R (.tup (cutU us lo hi)) vh
  | x => match asL S vh x with
    | some us => newL vh (cutU us lo hi) R
    | none => False
def vSl (S : Option (Addr × List Int)) (te : TV) (tl th : TVo) : TV := fun Γ vh R Z => te Γ vh (fun x vh1 => tl Γ vh1 (fun lo vh2 => th Γ vh2 (fun hi vh3 => sliceV S vh3 x lo hi R) Z) Z) Z
theorem cutU_all {us : List U} {lo hi : Option Int} (h : HT.sIx us.length 0 lo = 0 ∧ HT.sIx us.length us.length hi = us.length) : cutU us lo hi = us := by
  unfold cutU
  rw [h.1, h.2]
  simp
theorem ve_slice {lo hi : Option Expr} {tl th : TVo} {p2 : Pos} (ha : VE X P E a ta) (hl : VO X P E lo tl) (hh : VO X P E hi th) : VE X P E (.Subscript a (.Slice lo hi none p2) pos) (vSl P.S ta tl th) := by
  refine PE.asks (pe_slice (SlR.or sl_list sl_tupF) ha hl hh) fun σ H Q ⟨Γ, vh, R, Z, g, r, q, k, x⟩ => ?_
  refine ⟨Γ, vh, _, Z, g, r, q, fun u vh1 q1 v H1 s1 r1 => ?_, x⟩
  refine ⟨Γ, vh1, _, Z, g.stay s1.tup, s1.rel, q1, fun i vh2 q2 H2 s2 => ?_, x.step s1⟩
  refine ⟨Γ, vh2, _, Z, (g.stay s1.tup).stay s2.tup, s2.rel, q2, fun j vh3 q3 H3 s3 => ?_, (x.step s1).step s2⟩
  have r3 := r1.stay (s2.trans s3).tup
  have s13 := (s1.trans s2).trans s3
  have k' : ∀ u vh', R u vh' → ∀ v H', Stp (wd X P) H3 vh3 H' vh' → RelU X.K H' u v → Q v H' := fun u vh' h v H' s r => k _ _ h _ _ (s13.trans s) r
  cases u with
  | tup us =>
    obtain ⟨c, vs, rfl, sq, qv⟩ := r3
    refine .inr ⟨c, vs, rfl, sq.t, fun e => ?_, fun _ => newT.met s3.rel q3 (qv.cut i j) k'⟩
    rw [qv.len] at e
    have q3 : R (.tup (cutU us i j)) vh3 := q3
    rw [cutU_all e] at q3
    exact k' _ _ q3 _ _ (.refl s3.rel) ⟨c, vs, rfl, sq, qv⟩
  | _ =>
    simp only [sliceV] at q3
    split at q3
    · rename_i us e
      obtain ⟨c, vs, rfl, sq, qv⟩ := asL.sq s3.rel e r3
      exact .inl ⟨c, vs, rfl, sq, fun p n => newL.met s3.rel q3 (qv.cut i j) k' n⟩
    · exact q3.elim
end
end VL

-- part E1
set_option Elab.async false
set_option linter.all false
set_option maxRecDepth 100000
set_option maxHeartbeats 4000000
/-! enumerate over a tuple, for HandS. -/
namespace VL
open PySem PySem.Spec PyProof.Rows L2
set_option maxHeartbeats 1000000 in
theorem enumT_new {l : Addr} {items : Array Value} :
    Meets (Builtin.«enumerate.__new__» ⟨[.type "enumerate", .ref l], []⟩) (fun _ R s => s.heap.IsTuple l items ∧
      R (.ok (.ret (.ref (s.heap.push { cls := .type "tuple_iterator", data := .fields #[.ref l, .int 0 0] }).objs.size)))
        { s with heap := (s.heap.push { cls := .type "tuple_iterator", data := .fields #[.ref l, .int 0 0] }).push { cls := .type "enumerate", data := .fields #[.none, .bool false, .ref s.heap.objs.size, rawInt 0, .none, .none] } }) :=
  .of_wp fun prog w A R s h => by
    obtain ⟨hp, g, d, tk, os⟩ := s
    obtain ⟨hT, h⟩ := h
    have hsub := sub_enumerate
    wp_walk using wpAny_pyIter_tuple hT
    refine wpAny_stack_any fun st => wpAny_pure ?_
    split
    · rename_i c _ _ _ _ _
      cases (c == Value.type "enumerate")
      · wp_walk using wpAny_pyIter_tuple hT
        exact ⟨_, rfl, h⟩
      · wp_walk using wpAny_pyIter_tuple hT
        exact ⟨_, rfl, h⟩
    · wp_walk using wpAny_pyIter_tuple hT
      exact ⟨_, rfl, h⟩

section
variable {prog : Program} {w : World} {A : Around} {E : Value → Shared → Prop} {s : Shared}
theorem call_enumT {l : Addr} {items : Array Value} {Q : Value → Shared → Prop} (hT : s.heap.IsTuple l items)
    (h : ∀ h', IsEnum h' (s.heap.objs.size + 1) s.heap.objs.size 0 .none → h'.IsTupleIter s.heap.objs.size l 0 → h'.objs.size = s.heap.objs.size + 2 →
      (∀ b o, s.heap.get? b = some o → h'.get? b = some o) → Q (.ref (s.heap.objs.size + 1)) { s with heap := h' }) :
    wpAny (model prog w) A (call (.type "enumerate") [.ref l]) Q E s := by
  refine callType_new F.called_enumerate (by decide) (F.typeCall_enumerate_1 _) (F.newCall_enumerate_1 _) (fun obj => F.args_object_init_2 obj _) F.entry_enumerate_new enumT_new ⟨hT, ?_⟩
  have sz : (s.heap.push { cls := .type "tuple_iterator", data := .fields #[.ref l, .int 0 0] }).objs.size = s.heap.objs.size + 1 := Heap.size_push ..
  show _ ∧ _
  rw [sz]
  have he : IsEnum ((s.heap.push { cls := .type "tuple_iterator", data := .fields #[.ref l, .int 0 0] }).push
      { cls := .type "enumerate", data := .fields #[.none, .bool false, .ref s.heap.objs.size, rawInt 0, .none, .none] }) (s.heap.objs.size + 1) s.heap.objs.size 0 .none := by
    have q := Heap.get?_push_size (s.heap.push { cls := .type "tuple_iterator", data := .fields #[.ref l, .int 0 0] })
      (o := { cls := .type "enumerate", data := .fields #[.none, .bool false, .ref s.heap.objs.size, rawInt 0, .none, .none] }) rfl
    rw [sz] at q
    exact q
  refine ⟨⟨_, he, rfl⟩, h _ he ⟨_, Heap.get?_push_of_some _ (Heap.get?_push_size _ rfl), rfl, rfl⟩ (by rw [Heap.size_push, sz]) fun b o x => Heap.get?_push_of_some _ (Heap.get?_push_of_some _ x)⟩
end
/-- the turns of enumerate over a tuple -/
def Ett (K : PySem.W.Frag) (a : Addr) : It :=
  ⟨fun i H => ∃ (xs : List V) (x : V), SqT K H a xs ∧ xs[i]? = some x, fun i H v H' => ∃ T x, v = .ref T ∧ H T = none ∧ H' = upd H T (.tup [.int (i : Nat), x]) ∧ ∀ xs, SqT K H a xs → xs[i]? = some x, fun i H => ∃ xs : List V, SqT K H a xs ∧ xs.length = i⟩
theorem turn_enumT {P : Program} {w : World} {K : PySem.W.Frag} {elts : List Expr} {kk : Nat} {tpos : Pos} (a e it : Addr) :
    Turn P w K (.Tuple elts kk tpos) (Ett K a) [e, it] e (fun i h => (∃ old, IsEnum h e it ((i : Nat) : Int) old) ∧ h.IsTupleIter it a i ∧ e ≠ it) where
  mem := by simp
  obj := fun i h st b hb => by
    obtain ⟨⟨old, he⟩, ⟨o, ho, hc, hd⟩, _⟩ := st
    have e' : b = e ∨ b = it := by simpa using hb
    rcases e' with z | z
    · subst z; exact ⟨_, he, fun v q => nomatch q⟩
    · subst z; exact ⟨o, ho, fun v q => by rw [hd] at q; cases q⟩
  keep := fun i h h' st k => by
    obtain ⟨⟨old, he⟩, hi, hne⟩ := st
    exact ⟨⟨old, k e (by simp) _ he⟩, hi.at fun o q => k it (by simp) o q, hne⟩
  item := by
    intro X hP hw hK hc i pins s σ H E I hf st hg
    subst hP hw hK
    obtain ⟨⟨old, he⟩, hit, hne⟩ := st
    obtain ⟨xs, x, hq, hx⟩ := hg
    obtain ⟨its, rv, p, hz⟩ := I.tuple hq
    obtain ⟨u, hu, ru⟩ := rv.get hx
    have hel : e < s.heap.objs.size := Heap.lt_size he
    have hil : it < s.heap.objs.size := by obtain ⟨_, q, _⟩ := hit; exact Heap.lt_size q
    have tne : a ≠ it := by
      obtain ⟨o1, q1, c1, _⟩ := hit
      obtain ⟨o2, q2, c2, _⟩ := p
      intro z
      subst z
      rw [q1] at q2
      cases q2
      rw [c1] at c2
      exact absurd c2 (by decide)
    have ene : a ≠ e := by
      obtain ⟨o2, q2, c2, _⟩ := p
      intro z
      subst z
      rw [show s.heap.get? a = _ from he] at q2
      cases q2
      exact absurd (show Value.type "enumerate" = Value.type "tuple" from c2) (by decide)
    have hi : i < its.toArray.size := by
      have := (List.getElem?_eq_some_iff.mp hu).1
      simpa using this
    have D := Draws.tuple (prog := X.prog) (w := X.w) (A := X.A.in1) (show X.A.in1.handled = none from I.ok.hd hc) it a tne its.toArray
    refine wpAny_pyNext_enum_itemD D he ⟨hit, p⟩ hi hne (by simp [hne, Ne.symm ene]) fun y h' tk hy ho hst' hT hsz hk => ?_
    have ey : y = u := by
      have hy : its.toArray[i]? = some y := hy
      have hu' : its.toArray[i]? = some u := by simpa using hu
      rw [hu'] at hy
      exact (Option.some.inj hy).symm
    subst ey
    refine ⟨_, rfl, wpAny_letOwnedTupleGo_enum (s := { s with heap := h', toks := tk + 1 }) ho fun h'' he' sb => ?_⟩
    have hT2 : h''.get? s.heap.objs.size = some { cls := .type "tuple", data := .seq #[.int i tk, y] } := (sb.2 _ (Nat.ne_of_gt hel)).trans hT
    have new : ObjOk X.prog X.w (upd H s.heap.objs.size (.tup [.int (i : Nat), x])) h'' s.heap.objs.size (.tup [.int (i : Nat), x]) :=
      ⟨by show 2 ≤ sizeLine; decide, [.int i tk, y], .cons ⟨_, rfl⟩ (.cons ru .nil), ⟨_, hT2, rfl, _, rfl⟩⟩
    have I1 : Inv X pins σ (upd H s.heap.objs.size (.tup [.int (i : Nat), x])) { s with heap := h'', toks := tk + 1 } :=
      I.turnedNew (ch := [e, it]) (fun b ob hb q => (sb.2 b (fun z => hb (by simp [z]))).trans (hk b ob (fun z => hb (by simp [z])) (fun z => hb (by simp [z])) q)) hf (Nat.le_refl _) new
    refine ⟨.ref s.heap.objs.size, _, I1, rfl, ⟨_, x, rfl, I.hok.fresh (Nat.le_refl _), rfl, fun ys hy => by rw [I.tuple_inj hy hq]; exact hx⟩, ⟨⟨y, ?_⟩, hst'.1.at fun o q => (sb.2 it (Ne.symm hne)).trans q, hne⟩, fun b hb => ?_⟩
    · have e1 : ((i + 1 : Nat) : Int) = (i : Int) + 1 := by omega
      rw [e1]; exact he'
    · have hb' : b < s.heap.objs.size := by
        have e' : b = e ∨ b = it := by simpa using hb
        rcases e' with z | z
        · subst z; exact hel
        · subst z; exact hil
      rw [upd_ne (Nat.ne_of_lt hb')]
      exact (hf b hb).1
  done := by
    intro X hP hw hK hc i pins s σ H E I hf st hg
    subst hP hw hK
    obtain ⟨⟨old, he⟩, hit, hne⟩ := st
    obtain ⟨xs, hq, hx⟩ := hg
    obtain ⟨its, rv, p, hz⟩ := I.tuple hq
    obtain ⟨f0, f1, f2, f3, f4, f5⟩ := hf it (by simp)
    have hl := rv.length
    have tne : a ≠ it := by
      obtain ⟨o1, q1, c1, _⟩ := hit
      obtain ⟨o2, q2, c2, _⟩ := p
      intro z
      subst z
      rw [q1] at q2
      cases q2
      rw [c1] at c2
      exact absurd c2 (by decide)
    have D := Draws.tuple (prog := X.prog) (w := X.w) (A := X.A.in1) (show X.A.in1.handled = none from I.ok.hd hc) it a tne its.toArray
    have ei : i = its.toArray.size := by rw [List.size_toArray]; omega
    subst ei
    exact wpAny_pyNext_enum_endD D he ⟨hit, p⟩ fun h' eb => ⟨rfl, I.turned (t' := s.toks) (fun b o hb q => eb b o hb q) f0 f1 f3 f4 f5⟩
  self := fun A i s Q E st h => by
    obtain ⟨⟨_, he⟩, _⟩ := st
    exact wpAny_pyIter_enum he h
def iEnumT (K : PySem.W.Frag) (ta : TA) : TI := fun σ H R => ta σ H fun vs H1 => ∃ a xs, vs = [.ref a] ∧ SqT K H1 a xs ∧ R (Ett K a) H1
def iEnumA (K : PySem.W.Frag) (ta : TA) : TI := fun σ H R => ta σ H fun vs H1 => ∃ a xs, vs = [.ref a] ∧ ((SqL K H1 a xs ∧ R (Ite K a) H1) ∨ (SqT K H1 a xs ∧ R (Ett K a) H1))
theorem pi_enumA {X : Cx} {e : Expr} {ta : TA} {p pos tpos : Pos} {elts : List Expr} {kk : Nat} (hg : Gl X "enumerate") (hm : X.mg "enumerate" = none) (ha : PA X [e] ta) (hs : starEach [e] X.env = [(false, eval e X.env)] := by rfl) :
    PI X (.Tuple elts kk tpos) (.Call (.Name "enumerate" p) [e] [] pos) (iEnumA X.K ta) := by
  refine ⟨fun pins s σ H R I h => ?_⟩
  refine Call_ (ld_blt I hg hm boot_enumerate (PyProof.Rows.callWith_type1 (thn (ha.run pos pins s σ H _ I h) fun us s1 ⟨vs, H1, I1, r1, q1⟩ => ?_) hs rfl))
  obtain ⟨a, xs, ex, q⟩ := q1
  subst ex
  cases r1 with
  | cons r rr =>
    cases rr
    cases r
    have fin : ∀ {b : Addr}, b ∈ [s1.heap.objs.size + 1, s1.heap.objs.size] → FpOk X pins H1 b := fun {b} hb => by
      have e' : b = s1.heap.objs.size + 1 ∨ b = s1.heap.objs.size := by simpa using hb
      have hle : s1.heap.objs.size ≤ b := by
        rcases e' with z | z
        · rw [z]; exact Nat.le_add_right _ _
        · rw [z]; exact Nat.le_refl _
      exact I1.fpOk hle (I1.hok.fresh hle)
    rcases q with ⟨hq, q⟩ | ⟨hq, q⟩
    · obtain ⟨its, rv, p', hz⟩ := I1.list hq
      refine call_enumerate_list p'.isList fun h' he hit hsz hk => wpAny_pyIter_enum he ?_
      have I2 : Inv X pins σ H1 { s1 with heap := h' } := I1.kept (t' := s1.toks) hk
      exact ⟨s1.heap.objs.size + 1, [s1.heap.objs.size + 1, s1.heap.objs.size], _, _, H1, rfl, I2, turn_enum a (s1.heap.objs.size + 1) s1.heap.objs.size, ⟨⟨.none, he⟩, hit, Nat.succ_ne_self _⟩, fun b hb => fin hb, q⟩
    · obtain ⟨its, rv, p', hz⟩ := I1.tuple hq
      refine call_enumT p' fun h' he hit hsz hk => wpAny_pyIter_enum he ?_
      have I2 : Inv X pins σ H1 { s1 with heap := h' } := I1.kept (t' := s1.toks) hk
      exact ⟨s1.heap.objs.size + 1, [s1.heap.objs.size + 1, s1.heap.objs.size], _, _, H1, rfl, I2, turn_enumT a (s1.heap.objs.size + 1) s1.heap.objs.size, ⟨⟨.none, he⟩, hit, Nat.succ_ne_self _⟩, fun b hb => fin hb, q⟩
end VL

-- part V4
set_option Elab.async false
set_option linter.all false
set_option maxRecDepth 100000
set_option maxHeartbeats 4000000
/-! Layer V, part 4: statements, loops, comprehensions. -/
namespace VL
open PySem PySem.Spec PyProof.Rows L2
section
variable {X : Cx} {P : Pk} {E : XK} {e : Expr} {te : TV} {st : Stmt} {rest : List Stmt} {t u : TVs} {pos : Pos}

/-! ### blocks -/
def sNext : TVs := fun R _ Γ vh => R.nx Γ vh
def sSeq (t u : TVs) : TVs := fun R Z Γ vh => t { R with nx := fun Γ' vh' => u R Z Γ' vh' } Z Γ vh
theorem vss_nil : VSs X P E [] sNext := PSs.asks pss_nil fun D σ H ⟨Γ, vh, R, Z, g, r, q, l, x⟩ => l.nx _ _ q _ _ (.refl r) g
theorem vss_cons (h1 : VS X P E st t) (h2 : VSs X P E rest u) : VSs X P E (st :: rest) (sSeq t u) := by
  refine PSs.asks (pss_cons h1 h2) fun D σ H ⟨Γ, vh, R, Z, g, r, q, l, x⟩ => ?_
  refine ⟨Γ, vh, _, Z, g, r, q, ⟨fun Γ' vh' q' σ' H' s' g' => ⟨Γ', vh', R, Z, g', s'.rel, q', l.step s', x.step s'⟩, l.rt, l.bk, l.ct⟩, x⟩
theorem vss_one (h1 : VS X P E st t) : VSs X P E [st] t := pss_one h1
def sNever : TVs := fun _ _ _ _ => False
theorem vs_never : VS X P E st sNever := PS.asks ps_never fun _ _ _ ⟨_, _, _, _, _, _, q, _, _⟩ => q.elim
theorem vss_never {sts : List Stmt} : VSs X P E sts sNever := PSs.asks pss_never fun _ _ _ ⟨_, _, _, _, _, _, q, _, _⟩ => q.elim
theorem vs_pass : VS X P E (.Pass pos) sNext := PS.asks ps_pass fun D σ H ⟨Γ, vh, R, Z, g, r, q, l, x⟩ => l.nx _ _ q _ _ (.refl r) g
def sBreak : TVs := fun R _ Γ vh => R.bk Γ vh
theorem vs_break : VS X P E (.Break pos) sBreak := PS.asks ps_break fun D σ H ⟨Γ, vh, R, Z, g, r, q, l, x⟩ => l.bk _ _ q _ _ (.refl r) g
def sDrop (te : TV) : TVs := fun R Z Γ vh => te Γ vh (fun _ vh1 => R.nx Γ vh1) Z
theorem vs_expr (he : VE X P E e te) (hs : swapsWith e none pos.line X.env = pure false := by rfl) : VS X P E (.Expr e pos) (sDrop te) :=
  PS.asks (ps_expr he hs) fun D σ H ⟨Γ, vh, R, Z, g, r, q, l, x⟩ => ⟨Γ, vh, _, Z, g, r, q, fun u vh1 q1 v H1 s1 _ => l.nx _ _ q1 _ _ s1 (g.stay s1.tup), x⟩
def sRet (te : TV) : TVs := fun R Z Γ vh => te Γ vh R.rt Z
theorem vs_ret (he : VE X P E e te) : VS X P E (.Return (some e) pos) (sRet te) :=
  PS.asks (ps_ret he) fun D σ H ⟨Γ, vh, R, Z, g, r, q, l, x⟩ => ⟨Γ, vh, _, Z, g, r, q, fun u vh1 q1 v H1 s1 r1 => l.rt _ _ q1 _ _ s1 r1, x⟩
def sRetN : TVs := fun R _ _ vh => R.rt .non vh
theorem vs_retN : VS X P E (.Return none pos) sRetN := PS.asks ps_retN fun D σ H ⟨Γ, vh, R, Z, g, r, q, l, x⟩ => l.rt _ _ q _ _ (.refl r) rfl
def sIf (c : TVb) (t u : TVs) : TVs := fun R Z Γ vh => c Γ vh (fun b vh1 => if b = true then t R Z Γ vh1 else u R Z Γ vh1) Z
theorem vs_if {c : Expr} {a b : List Stmt} {tc : TVb} (hc : VT X P E c tc) (ha : VSs X P E a t) (hb : VSs X P E b u) : VS X P E (.If c a b pos) (sIf tc t u) := by
  refine PS.asks (ps_if hc ha hb) fun D σ H ⟨Γ, vh, R, Z, g, r, q, l, x⟩ => ⟨Γ, vh, _, Z, g, r, q, fun b vh1 q1 H1 s1 => ?_, x⟩
  cases b with
  | true => exact ⟨Γ, vh1, R, Z, g.stay s1.tup, s1.rel, q1, l.step s1, x.step s1⟩
  | false => exact ⟨Γ, vh1, R, Z, g.stay s1.tup, s1.rel, q1, l.step s1, x.step s1⟩

/-! ### targets -/
abbrev TGV := U → EV → VH → (EV → VH → Prop) → XV → Prop
abbrev TGVs := List U → EV → VH → (EV → VH → Prop) → XV → Prop
def lG (W : Wd) (E : XK) (t : TGV) : TG := fun v σ H Q => ∃ u Γ vh R Z, RelU W.K H u v ∧ RelG W.K H Γ σ ∧ RelH W H vh ∧ t u Γ vh R Z ∧ (∀ Γ' vh', R Γ' vh' → ∀ σ' H', Stp W H vh H' vh' → RelG W.K H' Γ' σ' → Q σ' H') ∧ LX W E H vh Z
def lGs (W : Wd) (E : XK) (t : TGVs) : TGs := fun vs σ H Q => ∃ us Γ vh R Z, RelUs W.K H us vs ∧ RelG W.K H Γ σ ∧ RelH W H vh ∧ t us Γ vh R Z ∧ (∀ Γ' vh', R Γ' vh' → ∀ σ' H', Stp W H vh H' vh' → RelG W.K H' Γ' σ' → Q σ' H') ∧ LX W E H vh Z
abbrev VG (X : Cx) (P : Pk) (E : XK) (e : Expr) (t : TGV) : Prop := PG X e (lG (wd X P) E t)
abbrev VGs (X : Cx) (P : Pk) (E : XK) (es : List Expr) (t : TGVs) : Prop := PGs X es (lGs (wd X P) E t)
theorem PG.asks {e : Expr} {t u : TG} (h : PG X e t) (i : ∀ v σ H Q, u v σ H Q → t v σ H Q) : PG X e u := by
  refine ⟨fun pins s σ H x v Q I r w => ?_⟩
  exact h.run pins s σ H x v Q I r (i x σ H Q w)
theorem PGs.asks {es : List Expr} {t u : TGs} (h : PGs X es t) (i : ∀ v σ H Q, u v σ H Q → t v σ H Q) : PGs X es u := by
  refine ⟨fun pins s σ H x v Q I r w => ?_⟩
  exact h.run pins s σ H x v Q I r (i x σ H Q w)
def gN (i : Nat) : TGV := fun u Γ vh R _ => R (Γ.set i (some u)) vh
theorem vg_name {i : Nat} {x : Str} (hN : X.N.Nodup) (hi : X.N[i]? = some x) (hx : Loc X.env.scope x) (hf : X.fn x = true ∨ X.env.scope.names.lookup x = some .local := by first | exact .inl rfl | exact .inr rfl | assumption) : VG X P E (.Name x pos) (gN i) :=
  PG.asks (pg_name hN hi hx hf) fun v σ H Q ⟨u, Γ, vh, R, Z, ru, g, r, q, k, x⟩ => k _ _ q _ _ (.refl r) (g.put i ru)
def gNl : TGVs := fun us Γ vh R _ => us = [] ∧ R Γ vh
def gCn (t : TGV) (ts : TGVs) : TGVs := fun us Γ vh R Z => match us with
  | u :: r => t u Γ vh (fun Γ1 vh1 => ts r Γ1 vh1 R Z) Z
  | [] => False
theorem vgs_nil : VGs X P E [] gNl := PGs.asks pgs_nil fun v σ H Q ⟨us, Γ, vh, R, Z, ru, g, r, q, k, x⟩ => by
  obtain ⟨rfl, q⟩ := q
  cases (show v = [] from ru)
  exact ⟨rfl, k _ _ q _ _ (.refl r) g⟩
theorem vgs_cons {es : List Expr} {t : TGV} {ts : TGVs} (h1 : VG X P E e t) (h2 : VGs X P E es ts) (hs : (assignEach (e :: es) X.env).map (·.2) = assign e X.env :: (assignEach es X.env).map (·.2) := by rfl) : VGs X P E (e :: es) (gCn t ts) := by
  refine PGs.asks (pgs_cons h1 h2 hs) fun v σ H Q ⟨us, Γ, vh, R, Z, ru, g, r, q, k, x⟩ => ?_
  cases us with
  | nil => exact q.elim
  | cons w us =>
    obtain ⟨v1, vr, rfl, r1, r2⟩ := ru
    refine ⟨v1, vr, rfl, w, Γ, vh, _, Z, r1, g, r, q, fun Γ1 vh1 q1 σ1 H1 s1 g1 => ?_, x⟩
    exact ⟨us, Γ1, vh1, R, Z, r2.stay s1.tup, g1, s1.rel, q1, fun Γ2 vh2 q2 σ2 H2 s2 g2 => k _ _ q2 _ _ (s1.trans s2) g2, x.step s1⟩
def gTp (ts : TGVs) : TGV := fun u Γ vh R Z => match u with
  | .tup us => ts us Γ vh R Z
  | .tupw us => ts us Γ vh R Z
  | _ => False
/-- how many a row of targets takes -/
theorem vg_tup {es : List Expr} {k : Nat} {t : TGVs} (n : Nat) (hc : X.calm = true) (h : VGs X P E es t) (hn : ∀ us Γ vh R Z, t us Γ vh R Z → us.length = n) (hl : (assignEach es X.env).length = n := by rfl) (hst : (assignEach es X.env).findIdx? (·.1) = none := by rfl) :
    VG X P E (.Tuple es k pos) (gTp t) := by
  refine PG.asks (pg_tup (n := n) hc h hl hst) fun v σ H Q ⟨u, Γ, vh, R, Z, ru, g, r, q, k, x⟩ => ?_
  cases u <;> first | exact q.elim | skip
  · rename_i us
    obtain ⟨a, vs, rfl, sq, rs⟩ := ru
    exact ⟨a, vs, rfl, sq.t, by rw [rs.len]; exact hn _ _ _ _ _ q, us, Γ, vh, R, Z, rs, g, r, q, k, x⟩
  · rename_i us
    obtain ⟨a, vs, rfl, sq, rs⟩ := ru
    exact ⟨a, vs, rfl, sq, by rw [rs.len]; exact hn _ _ _ _ _ q, us, Γ, vh, R, Z, rs, g, r, q, k, x⟩
theorem gNl_len : ∀ us Γ vh R Z, gNl us Γ vh R Z → us.length = 0 := fun us Γ vh R Z h => by rw [h.1]; rfl
theorem gCn_len {ts : TGVs} {n i : Nat} (h : ∀ us Γ vh R Z, ts us Γ vh R Z → us.length = n) : ∀ us Γ vh R Z, gCn (gN i) ts us Γ vh R Z → us.length = n + 1 := fun us Γ vh R Z q => by
  cases us with
  | nil => exact q.elim
  | cons w us => rw [List.length_cons, h us _ _ _ _ q]
/-- o[i] = v, a list of one's own -/
def gSb (S : Option (Addr × List Int)) (to ti : TV) : TGV := fun u Γ vh R Z => to Γ vh (fun o vh1 => ti Γ vh1 (fun i vh2 => match i, ownL vh2 o with
  | .int k, some (a, us) => (match ixN us.length k with
    | some j => R Γ (vput vh2 a (.lst (us.set j u)))
    | none => False)
  | _, _ => False) Z) Z
theorem vg_sub {o i : Expr} {to ti : TV} (ho : VE X P E o to) (hi : VE X P E i ti) (ha : ∀ v, assign (.Subscript o i pos) X.env v = (do let ov ← holding [v] (eval o X.env); let iv ← holding [v, ov] (eval i X.env); standAt pos; holding [v, ov, iv] (setItem ov iv v); release [v, ov, iv] []) := by intro _; rfl) : VG X P E (.Subscript o i pos) (gSb P.S to ti) := by
  have h : PG X (.Subscript o i pos) (gSub (lE (wd X P) E to) (lE (wd X P) E ti) rSetL) := pg_sub ho hi set_list ha
  refine PG.asks h fun v σ H Q ⟨u, Γ, vh, R, Z, ru, g, r, q, k, x⟩ => ?_
  refine ⟨Γ, vh, _, Z, g, r, q, fun w vh1 q1 y H1 s1 r1 => ?_, x⟩
  refine ⟨Γ, vh1, _, Z, g.stay s1.tup, s1.rel, q1, fun w2 vh2 q2 y2 H2 s2 r2 => ?_, x.step s1⟩
  have s12 := s1.trans s2
  split at q2
  · rename_i kk a us eo
    obtain ⟨rfl, hv, vs, ev, rv⟩ := ownL.at (W := wd X P) s2.rel eo (r1.stay s2.tup)
    split at q2
    · rename_i j ej
      refine ⟨a, vs, kk, j, rfl, r2, ev, by rw [rv.len]; exact ej, ?_⟩
      have st : TupStay H2 (upd H2 a (.lst (vs.set j v))) := (Stp.put (c' := .any (.lst (vs.set j v))) s2.rel hv ev True.intro ⟨upd_same, fun _ z => by cases z⟩).tup
      have s3 : Stp (wd X P) H2 vh2 (upd H2 a (.lst (vs.set j v))) (vput vh2 a (.lst (us.set j u))) := Stp.put s2.rel hv ev True.intro ⟨_, upd_same, (rv.put j (ru.stay s12.tup)).stay st⟩
      exact k _ _ q2 _ _ (s12.trans s3) (g.stay (s12.trans s3).tup)
    · exact q2.elim
  · exact q2.elim
def sAsg (te : TV) (g : TGV) : TVs := fun R Z Γ vh => te Γ vh (fun u vh1 => g u Γ vh1 R.nx Z) Z
theorem vs_asg {tg : Expr} {g : TGV} (he : VE X P E e te) (hg : VG X P E tg g) (hs : swapsWithSole [tg] e pos.line X.env = pure false := by rfl) (hw : swappedStores [tg] e X.env = pure none := by rfl) (h1 : (assignEach [tg] X.env).map (·.2) = [assign tg X.env] := by rfl) : VS X P E (.Assign [tg] e pos) (sAsg te g) :=
  PS.asks (ps_asg he hg hs hw h1) fun D σ H ⟨Γ, vh, R, Z, g, r, q, l, x⟩ => ⟨Γ, vh, _, Z, g, r, q, fun u vh1 q1 v H1 s1 r1 =>
    ⟨u, Γ, vh1, R.nx, Z, r1, g.stay s1.tup, s1.rel, q1, fun Γ2 vh2 q2 σ2 H2 s2 g2 => l.nx _ _ q2 _ _ (s1.trans s2) g2, x.step s1⟩, x⟩
theorem vs_set {i : Nat} {x : Str} {pos' : Pos} (hN : X.N.Nodup) (hi : X.N[i]? = some x) (hx : Loc X.env.scope x) (he : VE X P E e te) (hs : swapsWith e (some (.Name x pos')) pos.line X.env = pure false := by rfl) (hf : X.fn x = true ∨ X.env.scope.names.lookup x = some .local := by first | exact .inl rfl | exact .inr rfl | assumption) :
    VS X P E (.Assign [.Name x pos'] e pos) (sAsg te (gN i)) :=
  PS.asks (ps_set hN hi hx he hs hf) fun D σ H ⟨Γ, vh, R, Z, g, r, q, l, x⟩ => ⟨Γ, vh, _, Z, g, r, q, fun u vh1 q1 v H1 s1 r1 => l.nx _ _ q1 _ _ s1 ((g.stay s1.tup).put i r1), x⟩
/-- x, y = a, b with two local names -/
def sPar (i j : Nat) (ta : TVa) : TVs := fun R Z Γ vh => ta Γ vh (fun us vh1 => match us with
  | [u, w] => R.nx ((Γ.set i (some u)).set j (some w)) vh1
  | _ => False) Z
theorem lA_par {i j : Nat} {ta : TVa} : ∀ D σ H, lS (wd X P) E (sPar i j ta) D σ H → tPar i j (lA (wd X P) E ta) D σ H := by
  rintro D σ H ⟨Γ, vh, R, Z, g, r, q, l, x⟩
  refine ⟨Γ, vh, _, Z, g, r, q, fun us vh1 q1 vs H1 s1 r1 => ?_, x⟩
  split at q1
  · obtain ⟨v, r', rfl, h1, h2⟩ := r1
    obtain ⟨w, r'', rfl, h3, h4⟩ := h2
    cases (show r'' = [] from h4)
    exact ⟨v, w, rfl, l.nx _ _ q1 _ _ s1 (((g.stay s1.tup).put i h1).put j h3)⟩
  · exact q1.elim
def sPar3 (i j k : Nat) (ta : TVa) : TVs := fun R Z Γ vh => ta Γ vh (fun us vh1 => match us with
  | [u, w, z] => R.nx (((Γ.set i (some u)).set j (some w)).set k (some z)) vh1
  | _ => False) Z
theorem lA_par3 {i j k : Nat} {ta : TVa} : ∀ D σ H, lS (wd X P) E (sPar3 i j k ta) D σ H → tPar3 i j k (lA (wd X P) E ta) D σ H := by
  rintro D σ H ⟨Γ, vh, R, Z, g, r, q, l, x⟩
  refine ⟨Γ, vh, _, Z, g, r, q, fun us vh1 q1 vs H1 s1 r1 => ?_, x⟩
  split at q1
  · obtain ⟨v, r', rfl, h1, h2⟩ := r1
    obtain ⟨w, r'', rfl, h3, h4⟩ := h2
    obtain ⟨w', r3, rfl, h5, h6⟩ := h4
    cases (show r3 = [] from h6)
    exact ⟨v, w, w', rfl, l.nx _ _ q1 _ _ s1 ((((g.stay s1.tup).put i h1).put j h3).put k h5)⟩
  · exact q1.elim

/-! ### loops -/
/-- while: W holds at each test, m falls -/
def sWhile (c : TVb) (tb : TVs) : TVs := fun R Z Γ vh => ∃ W : Nat → EV → VH → Prop, (∃ m, W m Γ vh) ∧ ∀ m Γ' vh', W m Γ' vh' →
  c Γ' vh' (fun b vh1 => if b = true then tb { R with nx := fun Γ2 vh2 => ∃ m', m' < m ∧ W m' Γ2 vh2, ct := fun Γ2 vh2 => ∃ m', m' < m ∧ W m' Γ2 vh2, bk := R.nx } Z Γ' vh1 else R.nx Γ' vh1) Z
theorem vs_while {c : Expr} {body : List Stmt} {tc : TVb} {tb : TVs} (hp : PassesOwn (model X.prog X.w) X.A X.env X.xe) (hc : VT X P E c tc) (hb : VSs X P E body tb) : VS X P E (.While c body [] pos) (sWhile tc tb) := by
  refine PS.asks (ps_while hp hc hb) fun D σ H ⟨Γ, vh, R, Z, g, r, q, l, x⟩ => ?_
  obtain ⟨W, ⟨m, w0⟩, turn⟩ := q
  refine ⟨fun m σ' H' => ∃ Γ' vh', W m Γ' vh' ∧ Stp (wd X P) H vh H' vh' ∧ RelG X.K H' Γ' σ', ⟨m, Γ, vh, w0, .refl r, g⟩, fun m σ' H' ⟨Γ', vh', w, s, g'⟩ => ?_⟩
  refine ⟨Γ', vh', _, Z, g', s.rel, turn m Γ' vh' w, fun b vh1 q1 H1 s1 => ?_, x.step s⟩
  cases b with
  | false => exact l.nx _ _ q1 _ _ (s.trans s1) (g'.stay s1.tup)
  | true =>
    refine ⟨fun σ2 H2 => ∃ m', m' < m ∧ ∃ Γ2 vh2, W m' Γ2 vh2 ∧ Stp (wd X P) H vh H2 vh2 ∧ RelG X.K H2 Γ2 σ2, fun _ _ h => h, Γ', vh1, _, Z, g'.stay s1.tup, s1.rel, q1, ⟨fun Γ2 vh2 q2 σ2 H2 s2 g2 => ?_, (l.step (s.trans s1)).rt, (l.step (s.trans s1)).nx, fun Γ2 vh2 q2 σ2 H2 s2 g2 => ?_⟩, x.step (s.trans s1)⟩
    · obtain ⟨m', lt, w'⟩ := q2
      exact ⟨m', lt, Γ2, vh2, w', (s.trans s1).trans s2, g2⟩
    · obtain ⟨m', lt, w'⟩ := q2
      exact ⟨m', lt, Γ2, vh2, w', (s.trans s1).trans s2, g2⟩
/-- what a loop goes through: the items, what must stand meanwhile -/
structure ItV where
  items : List U
  ok : VH → Prop
/-- the library's iterator does what is told -/
def LIt (W : Wd) (H1 : Hp) (J : It) (I : ItV) : Prop := ∀ (i : Nat) (H : Hp) (vh : VH), TupStay H1 H → RelH W H vh → I.ok vh →
  (i = I.items.length → J.stop i H) ∧ ∀ u, I.items[i]? = some u → J.go i H ∧ ∀ x H', J.yld i H x H' → Stp W H vh H' vh ∧ RelU W.K H' u x
abbrev TIV := EV → VH → (ItV → VH → Prop) → XV → Prop
def lI (W : Wd) (E : XK) (t : TIV) : TI := fun σ H Q => ∃ Γ vh R Z, RelG W.K H Γ σ ∧ RelH W H vh ∧ t Γ vh R Z ∧ (∀ I vh', R I vh' → ∀ J H', Stp W H vh H' vh' → LIt W H' J I → Q J H') ∧ LX W E H vh Z
abbrev VI (X : Cx) (P : Pk) (E : XK) (tg iter : Expr) (t : TIV) : Prop := PI X tg iter (lI (wd X P) E t)
theorem PI.asks {tg iter : Expr} {t u : TI} (h : PI X tg iter t) (i : ∀ σ H Q, u σ H Q → t σ H Q) : PI X tg iter u := ⟨fun pins s σ H Q I w => h.run pins s σ H Q I (i σ H Q w)⟩
/-- for: W holds behind i turns -/
def sFor (ti : TIV) (g : TGV) (tb : TVs) : TVs := fun R Z Γ vh => ti Γ vh (fun I vh1 => ∃ W : Nat → EV → VH → Prop, W 0 Γ vh1 ∧ ∀ i Γ' vh', W i Γ' vh' → I.ok vh' ∧ (i = I.items.length → R.nx Γ' vh') ∧
  ∀ u, I.items[i]? = some u → g u Γ' vh' (fun Γ2 vh2 => tb { R with nx := W (i + 1), ct := W (i + 1), bk := R.nx } Z Γ2 vh2) Z) Z
theorem vs_for {tg iter : Expr} {body : List Stmt} {ti : TIV} {g : TGV} {tb : TVs} (hp : PassesOwn (model X.prog X.w) X.A X.env X.xe) (hc : X.calm = true) (hi : VI X P E tg iter ti) (hg : VG X P E tg g) (hb : VSs X P E body tb)
    (hs : ∀ x, foldedSetIterable iter X.env x = pure x := by intro _; rfl) : VS X P E (.For tg iter body [] pos) (sFor ti g tb) := by
  refine PS.asks (ps_for hp hc hi hg hb hs) fun D σ H ⟨Γ, vh, R, Z, gg, r, q, l, x⟩ => ?_
  refine ⟨Γ, vh, _, Z, gg, r, q, fun I vh1 q1 J H1 s1 lj => ?_, x⟩
  obtain ⟨W, w0, turn⟩ := q1
  refine ⟨fun i m σ' H' => ∃ Γ' vh', i + m = I.items.length ∧ W i Γ' vh' ∧ Stp (wd X P) H1 vh1 H' vh' ∧ RelG X.K H' Γ' σ', ⟨I.items.length, Γ, vh1, by omega, w0, .refl s1.rel, gg.stay s1.tup⟩, fun i m σ' H' ⟨Γ', vh', em, w, s, g'⟩ => ?_⟩
  obtain ⟨ok, fin, step⟩ := turn i Γ' vh' w
  obtain ⟨j1, j2⟩ := lj i H' vh' s.tup s.rel ok
  have s' := s1.trans s
  by_cases hm : m = 0
  · have hi : i = I.items.length := by omega
    exact .inl ⟨j1 hi, l.nx _ _ (fin hi) _ _ s' g'⟩
  · have hlt : i < I.items.length := by omega
    have hu : I.items[i]? = some I.items[i] := List.getElem?_eq_getElem hlt
    obtain ⟨go, y⟩ := j2 _ hu
    refine .inr ⟨go, fun σ2 H2 => ∃ Γ2 vh2, W (i + 1) Γ2 vh2 ∧ Stp (wd X P) H1 vh1 H2 vh2 ∧ RelG X.K H2 Γ2 σ2, fun σ2 H2 ⟨Γ2, vh2, w2, s2, g2⟩ => ⟨m - 1, by omega, Γ2, vh2, by omega, w2, s2, g2⟩, fun v H2 hy => ?_⟩
    obtain ⟨s2, r2⟩ := y v H2 hy
    have s3 := s'.trans s2
    refine ⟨_, Γ', vh', _, Z, r2, g'.stay s2.tup, s2.rel, step _ hu, fun Γ3 vh3 q3 σ3 H3 s4 g3 => ?_, x.step s3⟩
    refine ⟨Γ3, vh3, _, Z, g3, s4.rel, q3, ⟨fun Γ4 vh4 q4 σ4 H4 s5 g4 => ?_, (l.step (s3.trans s4)).rt, (l.step (s3.trans s4)).nx, fun Γ4 vh4 q4 σ4 H4 s5 g4 => ?_⟩, x.step (s3.trans s4)⟩
    · exact ⟨Γ4, vh4, q4, ((s.trans s2).trans s4).trans s5, g4⟩
    · exact ⟨Γ4, vh4, q4, ((s.trans s2).trans s4).trans s5, g4⟩

/-! ### what is gone through -/
def iSq (S : Option (Addr × List Int)) (te : TV) : TIV := fun Γ vh R Z => te Γ vh (fun u vh1 => match asSq S vh1 u with
  | some us => R ⟨us, fun vh' => asSq S vh' u = some us⟩ vh1
  | none => False) Z
/-- lists and tuples as PI -/
theorem asSq.cases {W : Wd} {H : Hp} {vh : VH} {x : U} {us : List U} {v : V} (r : RelH W H vh) (h : asSq W.S vh x = some us) (e : RelU W.K H x v) :
    ∃ a vs, v = .ref a ∧ RelUs W.K H us vs ∧ (((x = .tup us ∨ x = .tupw us) ∧ SqT W.K H a vs) ∨ (x = .ref a ∧ SqL W.K H a vs)) := by
  cases x with
  | tup ws =>
    obtain rfl : ws = us := Option.some.inj h
    obtain ⟨a, vs, rfl, s, q⟩ := e
    exact ⟨a, vs, rfl, q, .inl ⟨.inl rfl, s.t⟩⟩
  | tupw ws =>
    obtain rfl : ws = us := Option.some.inj h
    obtain ⟨a, vs, rfl, s, q⟩ := e
    exact ⟨a, vs, rfl, q, .inl ⟨.inr rfl, s⟩⟩
  | ref b =>
    simp only [asSq] at h
    have e' : v = .ref b := e
    subst e'
    obtain ⟨a, vs, ea, s, q⟩ := asL.sq r h (show RelU W.K H (.ref b) (.ref b) from rfl)
    cases ea
    exact ⟨b, vs, rfl, q, .inr ⟨rfl, s⟩⟩
  | non => simp [asSq, asL] at h
  | bl _ => simp [asSq, asL] at h
  | int _ => simp [asSq, asL] at h
  | str _ => simp [asSq, asL] at h
  | sta _ => simp [asSq] at h
end
end VL

-- part V5
set_option Elab.async false
set_option linter.all false
set_option maxRecDepth 100000
set_option maxHeartbeats 4000000
/-! Layer V, part 5: what loops go through; comprehensions. -/
namespace VL
open PySem PySem.Spec PyProof.Rows L2 RZ
section
variable {X : Cx} {P : Pk} {E : XK} {tg : Expr}
/-- a list or a tuple, walked -/
def iSqA (K : PySem.W.Frag) (tl : TE) : TI := fun σ H R => tl σ H fun x H1 => ∃ a, x = .ref a ∧ (((∃ xs, SqL K H1 a xs) ∧ R (Itl K a) H1) ∨ ((∃ xs, SqT K H1 a xs) ∧ R (Itt K a) H1))
theorem pi_sq {l : Expr} {tl : TE} (hl : PE X l tl) : PI X tg l (iSqA X.K tl) := by
  refine ⟨fun pins s σ H R I h => thn (hl.run pins s σ H _ I h) fun v s1 ⟨x, H1, I1, r1, a, e, q1⟩ => ?_⟩
  subst e
  cases r1
  have fin : ∀ b ∈ [s1.heap.objs.size], FpOk X pins H1 b := fun b hb => by
    obtain rfl : b = s1.heap.objs.size := by simpa using hb
    exact I1.fpOk (Nat.le_refl _) (I1.hok.fresh (Nat.le_refl _))
  rcases q1 with ⟨⟨xs, hq⟩, q⟩ | ⟨⟨xs, hq⟩, q⟩
  · obtain ⟨its, rv, p, hz⟩ := I1.list hq
    exact wpAny_pyIter_list p.isList ⟨_, [s1.heap.objs.size], _, _, H1, rfl, I1.kept (t' := s1.toks) fun b o e => Heap.get?_push_of_some _ e, turn_list a _, ⟨_, Heap.get?_push_size _ rfl, rfl, rfl⟩, fin, q⟩
  · obtain ⟨its, rv, p, hz⟩ := I1.tuple hq
    exact wpAny_pyIter_tuple (show s1.heap.IsTuple a its.toArray from p) ⟨_, [s1.heap.objs.size], _, _, H1, rfl, I1.kept (t' := s1.toks) fun b o e => Heap.get?_push_of_some _ e, turn_tuple a _, ⟨_, Heap.get?_push_size _ rfl, rfl, rfl⟩, fin, q⟩
/-- what stands of a list or a tuple at each later turn -/
theorem sq_later {W : Wd} {H1 H : Hp} {vh : VH} {x : U} {us : List U} {v : V} (r1 : RelU W.K H1 x v) (t : TupStay H1 H) (r : RelH W H vh) (h : asSq W.S vh x = some us) :
    ∃ a vs, v = .ref a ∧ RelUs W.K H us vs ∧ (((x = .tup us ∨ x = .tupw us) ∧ SqT W.K H a vs) ∨ (x = .ref a ∧ SqL W.K H a vs)) := asSq.cases r h (r1.stay t)
/-- lists do not tell two things -/
theorem lit_list {W : Wd} {H1 : Hp} {a : Addr} {us : List U} : LIt W H1 (Itl W.K a) ⟨us, fun vh => asSq W.S vh (.ref a) = some us⟩ := by
  intro i H vh t r ok
  obtain ⟨b, vs, e, q, c⟩ := asSq.cases r ok (show RelU W.K H (.ref a) (.ref a) from rfl)
  cases e
  rcases c with ⟨z | z, _⟩ | ⟨_, s⟩
  · cases z
  · cases z
  · refine ⟨fun e => ⟨vs, s, by rw [q.len]; exact Nat.le_of_eq e.symm⟩, fun u hu => ?_⟩
    obtain ⟨v, hv, rv⟩ := q.get hu
    refine ⟨⟨vs, v, s, hv⟩, fun x H' hy => ?_⟩
    obtain ⟨rfl, f⟩ := hy
    have := f vs s
    rw [hv] at this
    cases this
    exact ⟨.refl r, rv⟩
theorem lit_tup {W : Wd} {H1 : Hp} {a : Addr} {us : List U} {vs : List V} (s1 : SqT W.K H1 a vs) (q1 : RelUs W.K H1 us vs) {ok : VH → Prop} : LIt W H1 (Itt W.K a) ⟨us, ok⟩ := by
  intro i H vh t r _
  have s := t.sq s1
  have q := q1.stay t
  refine ⟨fun e => ⟨vs, s, by rw [q.len]; exact Nat.le_of_eq e.symm⟩, fun u hu => ?_⟩
  obtain ⟨v, hv, rv⟩ := q.get hu
  refine ⟨⟨vs, v, s, hv⟩, fun x H' hy => ?_⟩
  obtain ⟨rfl, f⟩ := hy
  have := f vs s
  rw [hv] at this
  cases this
  exact ⟨.refl r, rv⟩
theorem vi_sq {l : Expr} {tl : TV} (hl : VE X P E l tl) : VI X P E tg l (iSq P.S tl) := by
  refine PI.asks (pi_sq hl) fun σ H Q ⟨Γ, vh, R, Z, g, r, q, k, x⟩ => ⟨Γ, vh, _, Z, g, r, q, fun u vh1 q1 v H1 s1 r1 => ?_, x⟩
  split at q1
  · rename_i us e
    obtain ⟨a, vs, rfl, qv, c⟩ := asSq.cases s1.rel e r1
    rcases c with ⟨_, s⟩ | ⟨rfl, s⟩
    · exact ⟨a, rfl, .inr ⟨⟨vs, s⟩, k _ _ q1 _ _ s1 (lit_tup s qv)⟩⟩
    · exact ⟨a, rfl, .inl ⟨⟨vs, s⟩, k _ _ q1 _ _ s1 lit_list⟩⟩
  · exact q1.elim
/-- range -/
def rngU (lo : Int) (n : Nat) : List U := (List.range n).map fun i => U.int (lo + (i : Nat))
theorem rngU_len (lo : Int) (n : Nat) : (rngU lo n).length = n := by simp [rngU]
theorem rngU_get {lo : Int} {n i : Nat} {u : U} (h : (rngU lo n)[i]? = some u) : i < n ∧ u = .int (lo + i) := by
  unfold rngU at h
  rw [List.getElem?_map] at h
  obtain ⟨j, hj, rfl⟩ := Option.map_eq_some_iff.mp h
  obtain ⟨h1, h2⟩ := List.getElem?_eq_some_iff.mp hj
  simp at h1 h2
  subst h2
  exact ⟨h1, rfl⟩
theorem lit_range {W : Wd} {H1 : Hp} {lo : Int} {n : Nat} {ok : VH → Prop} : LIt W H1 (Itr lo n) ⟨rngU lo n, ok⟩ := by
  intro i H vh t r _
  refine ⟨fun e => ?_, fun u hu => ?_⟩
  · have e : i = n := by rw [e]; exact rngU_len lo n
    exact Nat.le_of_eq e.symm
  · obtain ⟨hi, rfl⟩ := rngU_get hu
    refine ⟨hi, fun x H' hy => ?_⟩
    obtain ⟨rfl, rfl⟩ := hy
    exact ⟨.refl r, rfl⟩
def B62 (i : Int) : Prop := -(2 ^ 62) ≤ i ∧ i < 2 ^ 62
def iRg1 (ta : TVa) : TIV := fun Γ vh R Z => ta Γ vh (fun us vh1 => match us with
  | [.int j] => B62 j ∧ R ⟨rngU 0 j.toNat, fun _ => True⟩ vh1
  | _ => False) Z
def iRg2 (ta : TVa) : TIV := fun Γ vh R Z => ta Γ vh (fun us vh1 => match us with
  | [.int i, .int j] => B62 i ∧ B62 j ∧ R ⟨rngU i (j - i).toNat, fun _ => True⟩ vh1
  | _ => False) Z
theorem vi_range1 {a : Expr} {ta : TVa} {p pos : Pos} (hg : Gl X "range") (hm : X.mg "range" = none) (ha : VA X P E [a] ta) (hs : starEach [a] X.env = [(false, eval a X.env)] := by rfl) : VI X P E tg (.Call (.Name "range" p) [a] [] pos) (iRg1 ta) := by
  refine PI.asks (pi_range1 hg hm ha hs) fun σ H Q ⟨Γ, vh, R, Z, g, r, q, k, x⟩ => ⟨Γ, vh, _, Z, g, r, q, fun us vh1 q1 vs H1 s1 r1 => ?_, x⟩
  split at q1
  · obtain ⟨v, r', rfl, h1, h2⟩ := r1
    cases (show r' = [] from h2)
    exact ⟨_, by rw [show v = _ from h1], q1.1.1, q1.1.2, k _ _ q1.2 _ _ s1 lit_range⟩
  · exact q1.elim
theorem vi_range2 {a b : Expr} {ta : TVa} {p pos : Pos} (hg : Gl X "range") (hm : X.mg "range" = none) (ha : VA X P E [a, b] ta) (hs : starEach [a, b] X.env = [(false, eval a X.env), (false, eval b X.env)] := by rfl) (hs2 : starEach [b] X.env = [(false, eval b X.env)] := by rfl) :
    VI X P E tg (.Call (.Name "range" p) [a, b] [] pos) (iRg2 ta) := by
  refine PI.asks (pi_range2 hg hm ha hs hs2) fun σ H Q ⟨Γ, vh, R, Z, g, r, q, k, x⟩ => ⟨Γ, vh, _, Z, g, r, q, fun us vh1 q1 vs H1 s1 r1 => ?_, x⟩
  split at q1
  · obtain ⟨v, r', rfl, h1, h2⟩ := r1
    obtain ⟨w, r'', rfl, h3, h4⟩ := h2
    cases (show r'' = [] from h4)
    exact ⟨_, _, by rw [show v = _ from h1, show w = _ from h3], ⟨q1.1.1, q1.1.2, q1.2.1.1, q1.2.1.2⟩, k _ _ q1.2.2 _ _ s1 lit_range⟩
  · exact q1.elim
/-- enumerate -/
def enumU (us : List U) : List U := us.zipIdx.map fun p => U.tupw [.int (p.2 : Nat), p.1]
theorem enumU_len (us : List U) : (enumU us).length = us.length := by simp [enumU]
theorem enumU_get {us : List U} {i : Nat} {u : U} (h : (enumU us)[i]? = some u) : ∃ w, us[i]? = some w ∧ u = .tupw [.int (i : Nat), w] := by
  unfold enumU at h
  rw [List.getElem?_map] at h
  obtain ⟨p, hp, rfl⟩ := Option.map_eq_some_iff.mp h
  rw [List.getElem?_zipIdx] at hp
  obtain ⟨w, hw, rfl⟩ := Option.map_eq_some_iff.mp hp
  exact ⟨w, hw, by simp⟩
theorem pair_step {W : Wd} {H : Hp} {vh : VH} {T : Addr} {u w : U} {x y : V} (r : RelH W H vh) (n : H T = none) (ru : RelU W.K H u x) (rw' : RelU W.K H w y) : Stp W H vh (upd H T (.tup [x, y])) vh ∧ RelU W.K (upd H T (.tup [x, y])) (.tupw [u, w]) (.ref T) := by
  have s := Stp.new0 (o := .tup [x, y]) r n
  exact ⟨s, T, _, rfl, .inl (.inl upd_same), RelUs.cons (ru.stay s.tup) (RelUs.cons (rw'.stay s.tup) RelUs.nil)⟩
theorem lit_enumL {W : Wd} {H1 : Hp} {a : Addr} {us : List U} : LIt W H1 (Ite W.K a) ⟨enumU us, fun vh => asSq W.S vh (.ref a) = some us⟩ := by
  intro i H vh t r ok
  obtain ⟨b, vs, e, q, c⟩ := asSq.cases r ok (show RelU W.K H (.ref a) (.ref a) from rfl)
  cases e
  rcases c with ⟨z | z, _⟩ | ⟨_, s⟩
  · cases z
  · cases z
  · refine ⟨fun e => ⟨vs, s, by rw [q.len, e]; exact Nat.le_of_eq (enumU_len us).symm⟩, fun u hu => ?_⟩
    obtain ⟨w, hw, rfl⟩ := enumU_get hu
    obtain ⟨v, hv, rv⟩ := q.get hw
    refine ⟨⟨vs, v, s, hv⟩, fun x H' hy => ?_⟩
    obtain ⟨T, y, rfl, n, rfl, f⟩ := hy
    have := f vs s
    rw [hv] at this
    cases this
    exact pair_step r n rfl rv
theorem lit_enumT {W : Wd} {H1 : Hp} {a : Addr} {us : List U} {vs : List V} (s1 : SqT W.K H1 a vs) (q1 : RelUs W.K H1 us vs) {ok : VH → Prop} : LIt W H1 (Ett W.K a) ⟨enumU us, ok⟩ := by
  intro i H vh t r _
  have s := t.sq s1
  have q := q1.stay t
  refine ⟨fun e => ⟨vs, s, by rw [q.len, e]; exact (enumU_len us).symm⟩, fun u hu => ?_⟩
  obtain ⟨w, hw, rfl⟩ := enumU_get hu
  obtain ⟨v, hv, rv⟩ := q.get hw
  refine ⟨⟨vs, v, s, hv⟩, fun x H' hy => ?_⟩
  obtain ⟨T, y, rfl, n, rfl, f⟩ := hy
  have := f vs s
  rw [hv] at this
  cases this
  exact pair_step r n rfl rv
def iEn (S : Option (Addr × List Int)) (ta : TVa) : TIV := fun Γ vh R Z => ta Γ vh (fun us vh1 => match us with
  | [u] => (match asSq S vh1 u with
    | some us => R ⟨enumU us, fun vh' => asSq S vh' u = some us⟩ vh1
    | none => False)
  | _ => False) Z
theorem vi_enum {e : Expr} {ta : TVa} {p pos tpos : Pos} {elts : List Expr} {kk : Nat} (hg : Gl X "enumerate") (hm : X.mg "enumerate" = none) (ha : VA X P E [e] ta) (hs : starEach [e] X.env = [(false, eval e X.env)] := by rfl) :
    VI X P E (.Tuple elts kk tpos) (.Call (.Name "enumerate" p) [e] [] pos) (iEn P.S ta) := by
  refine PI.asks (pi_enumA hg hm ha hs) fun σ H Q ⟨Γ, vh, R, Z, g, r, q, k, x⟩ => ⟨Γ, vh, _, Z, g, r, q, fun us vh1 q1 vs H1 s1 r1 => ?_, x⟩
  split at q1
  · rename_i u
    obtain ⟨v, r', rfl, h1, h2⟩ := r1
    cases (show r' = [] from h2)
    split at q1
    · rename_i us e
      obtain ⟨a, vs, rfl, qv, c⟩ := asSq.cases s1.rel e h1
      rcases c with ⟨_, s⟩ | ⟨rfl, s⟩
      · exact ⟨a, vs, rfl, .inr ⟨s, k _ _ q1 _ _ s1 (lit_enumT s qv)⟩⟩
      · exact ⟨a, vs, rfl, .inl ⟨s, k _ _ q1 _ _ s1 lit_enumL⟩⟩
    · exact q1.elim
  · exact q1.elim
/-- zip of two lists, of two tuples -/
def zipU (us ws : List U) : List U := (us.zip ws).map fun p => U.tupw [p.1, p.2]
theorem zipU_len (us ws : List U) : (zipU us ws).length = min us.length ws.length := by simp [zipU]
theorem zipU_get {us ws : List U} {i : Nat} {u : U} (h : (zipU us ws)[i]? = some u) : ∃ a b, us[i]? = some a ∧ ws[i]? = some b ∧ u = .tupw [a, b] := by
  unfold zipU at h
  rw [List.getElem?_map] at h
  obtain ⟨p, hp, rfl⟩ := Option.map_eq_some_iff.mp h
  rw [List.getElem?_zip_eq_some] at hp
  exact ⟨_, _, hp.1, hp.2, rfl⟩
theorem lit_zipL {W : Wd} {H1 : Hp} {a b : Addr} {us ws : List U} : LIt W H1 (Itz W.K a b) ⟨zipU us ws, fun vh => asSq W.S vh (.ref a) = some us ∧ asSq W.S vh (.ref b) = some ws⟩ := by
  intro i H vh t r ok
  obtain ⟨a', vs, e, q, c⟩ := asSq.cases r ok.1 (show RelU W.K H (.ref a) (.ref a) from rfl)
  cases e
  obtain ⟨b', ys, e, q', c'⟩ := asSq.cases r ok.2 (show RelU W.K H (.ref b) (.ref b) from rfl)
  cases e
  rcases c with ⟨z | z, _⟩ | ⟨_, s⟩
  · cases z
  · cases z
  rcases c' with ⟨z | z, _⟩ | ⟨_, s'⟩
  · cases z
  · cases z
  refine ⟨fun e => ⟨vs, ys, s, s', ?_⟩, fun u hu => ?_⟩
  · have e : i = min us.length ws.length := by rw [e]; exact zipU_len us ws
    rw [q.len, q'.len]
    omega
  · obtain ⟨w, z, hw, hz, rfl⟩ := zipU_get hu
    obtain ⟨v, hv, rv⟩ := q.get hw
    obtain ⟨y, hy, ry⟩ := q'.get hz
    refine ⟨⟨vs, ys, v, y, s, s', hv, hy⟩, fun x H' hyl => ?_⟩
    obtain ⟨T, x1, y1, rfl, n, rfl, f, f'⟩ := hyl
    have e1 := f vs s
    have e2 := f' ys s'
    rw [hv] at e1
    rw [hy] at e2
    cases e1
    cases e2
    exact pair_step r n rv ry
theorem lit_zipT {W : Wd} {H1 : Hp} {a b : Addr} {us ws : List U} {vs ys : List V} (s1 : SqT W.K H1 a vs) (q1 : RelUs W.K H1 us vs) (s2 : SqT W.K H1 b ys) (q2 : RelUs W.K H1 ws ys) {ok : VH → Prop} : LIt W H1 (ItzT W.K a b) ⟨zipU us ws, ok⟩ := by
  intro i H vh t r _
  have s := t.sq s1
  have q := q1.stay t
  have s' := t.sq s2
  have q' := q2.stay t
  refine ⟨fun e => ⟨vs, ys, s, s', ?_⟩, fun u hu => ?_⟩
  · have e : i = min us.length ws.length := by rw [e]; exact zipU_len us ws
    rw [q.len, q'.len]
    omega
  · obtain ⟨w, z, hw, hz, rfl⟩ := zipU_get hu
    obtain ⟨v, hv, rv⟩ := q.get hw
    obtain ⟨y, hy, ry⟩ := q'.get hz
    refine ⟨⟨vs, ys, v, y, s, s', hv, hy⟩, fun x H' hyl => ?_⟩
    obtain ⟨T, x1, y1, rfl, n, rfl, f, f'⟩ := hyl
    have e1 := f vs s
    have e2 := f' ys s'
    rw [hv] at e1
    rw [hy] at e2
    cases e1
    cases e2
    exact pair_step r n rv ry
def iZp (S : Option (Addr × List Int)) (ta : TVa) : TIV := fun Γ vh R Z => ta Γ vh (fun us vh1 => match us with
  | [.tup us, .tup ws] => R ⟨zipU us ws, fun _ => True⟩ vh1
  | [.ref a, .ref b] => (match asSq S vh1 (.ref a), asSq S vh1 (.ref b) with
    | some us, some ws => R ⟨zipU us ws, fun vh' => asSq S vh' (.ref a) = some us ∧ asSq S vh' (.ref b) = some ws⟩ vh1
    | _, _ => False)
  | _ => False) Z
theorem vi_zip {e e2 : Expr} {ta : TVa} {p pos tpos : Pos} {elts : List Expr} {kk : Nat} (hg : Gl X "zip") (hm : X.mg "zip" = none) (ha : VA X P E [e, e2] ta)
    (hs : starEach [e, e2] X.env = (false, eval e X.env) :: starEach [e2] X.env := by rfl) (hpl : (backTo pos (starEach [e2] X.env)).any (·.1) = false := by rfl) :
    VI X P E (.Tuple elts kk tpos) (.Call (.Name "zip" p) [e, e2] [] pos) (iZp P.S ta) := by
  refine PI.asks (pi_zipA hg hm ha hs hpl) fun σ H Q ⟨Γ, vh, R, Z, g, r, q, k, x⟩ => ⟨Γ, vh, _, Z, g, r, q, fun us vh1 q1 vs H1 s1 r1 => ?_, x⟩
  split at q1
  · obtain ⟨v, r', rfl, h1, h2⟩ := r1
    obtain ⟨w, r'', rfl, h3, h4⟩ := h2
    cases (show r'' = [] from h4)
    obtain ⟨a, xs, rfl, sa, qa⟩ := h1
    obtain ⟨b, ys, rfl, sb, qb⟩ := h3
    exact ⟨a, b, xs, ys, rfl, .inr ⟨sa.t, sb.t, k _ _ q1 _ _ s1 (lit_zipT sa.t qa sb.t qb)⟩⟩
  · obtain ⟨v, r', rfl, h1, h2⟩ := r1
    obtain ⟨w, r'', rfl, h3, h4⟩ := h2
    cases (show r'' = [] from h4)
    split at q1
    · rename_i us ws e1 e2
      obtain ⟨a', xs, ea, qa, ca⟩ := asSq.cases s1.rel e1 h1
      obtain ⟨b', ys, eb, qb, cb⟩ := asSq.cases s1.rel e2 h3
      rcases ca with ⟨z | z, _⟩ | ⟨z, sa⟩
      · cases z
      · cases z
      rcases cb with ⟨z' | z', _⟩ | ⟨z', sb⟩
      · cases z'
      · cases z'
      cases z
      cases z'
      subst ea eb
      exact ⟨_, _, xs, ys, rfl, .inl ⟨sa, sb, k _ _ q1 _ _ s1 lit_zipL⟩⟩
    · exact q1.elim
  · exact q1.elim

/-! ### comprehensions -/
def wipeV (Γ : EV) : List Nat → EV
  | [] => Γ
  | v :: vs => (wipeV Γ vs).set v none
theorem RelG.wipe {K : PySem.W.Frag} {H : Hp} {Γ : EV} {σ : L2.St} (g : RelG K H Γ σ) : ∀ vs : List Nat, RelG K H (wipeV Γ vs) (wipe σ vs)
  | [] => g
  | v :: vs => by
    have q := RelG.wipe g vs
    refine ⟨by simp [wipeV, L2.wipe, q.len], fun i u e => ?_⟩
    simp only [wipeV, L2.wipe] at e ⊢
    by_cases h : i = v
    · subst h
      by_cases hi : i < (wipeV Γ vs).length
      · rw [List.getElem?_set_self hi] at e
        cases e
      · rw [List.getElem?_eq_none (by simpa using Nat.not_lt.mp hi)] at e
        cases e
    · rw [List.getElem?_set_ne (Ne.symm h)] at e ⊢
      exact q.at_ i u e
theorem wipe_set {σ : L2.St} {i : Nat} {o : Option V} : ∀ {ws : List Nat}, i ∈ ws → wipe (σ.set i o) ws = wipe σ ws
  | w :: ws, h => by
    simp only [L2.wipe]
    by_cases hw : i ∈ ws
    · rw [wipe_set hw]
    · have e : i = w := by
        rcases List.mem_cons.mp h with e | e
        · exact e
        · exact absurd e hw
      subst e
      have : ∀ (σ : L2.St) (ws : List Nat), i ∉ ws → wipe (σ.set i o) ws = (wipe σ ws).set i o := by
        intro σ ws
        induction ws with
        | nil => intro _; rfl
        | cons z zs ih =>
          intro hz
          simp only [L2.wipe]
          rw [ih (fun q => hz (List.mem_cons_of_mem _ q)), List.set_comm _ _ (fun q => hz (by rw [q]; exact List.mem_cons_self))]
      rw [this σ ws hw, List.set_set]
/-- a list of nobody's yet, made since -/
theorem wipe_wipe {σ : L2.St} {ws : List Nat} : wipe (wipe σ ws) ws = wipe σ ws := by
  have key : ∀ (us ws : List Nat) (σ : L2.St), (∀ w ∈ us, w ∈ ws) → wipe (wipe σ us) ws = wipe σ ws := by
    intro us
    induction us with
    | nil => intro _ _ _; rfl
    | cons u us ih =>
      intro ws σ h
      simp only [L2.wipe]
      rw [wipe_set (h u List.mem_cons_self)]
      exact ih ws σ fun w hw => h w (List.mem_cons_of_mem _ hw)
  exact key ws ws σ fun _ h => h
theorem Stp.side {W : Wd} {H1 H : Hp} {vh1 vh : VH} {D : Addr} {vs ws : List V} (s : Stp W H1 vh1 H vh) (n : H1 D = none) (hD : H D = some (.lst vs)) (v : vh D = none) : Stp W H1 vh1 (upd H D (.lst ws)) vh := by
  have k : ∀ b u, b ≠ D → H b = some u → upd H D (.lst ws) b = some u := fun b u e h => by rw [upd_ne e]; exact h
  have st : TupStay H (upd H D (.lst ws)) := ⟨fun b xs e => k b _ (fun z => by subst z; rw [hD] at e; cases e) e, fun b o u e => k b _ (fun z => by subst z; rw [hD] at e; cases e) e⟩
  refine ⟨s.tup.trans st, fun b o e ne w => k b o (fun z => by subst z; rw [n] at e; cases e) (s.fr b o e ne w), fun b e => ?_, fun b w e => s.dom b w e, ⟨fun b c e => ?_, Tabs.stays s.rel.tab (fun b ps e => k b _ (fun z => by subst z; rw [hD] at e; cases e) e) fun b φ e => k b _ (fun z => by subst z; rw [hD] at e; cases e) e, s.rel.sta⟩⟩
  · rw [upd_ne (fun z => e (by rw [z]; exact n))]
    exact s.liv b e
  · have hb : b ≠ D := fun z => by subst z; rw [v] at e; cases e
    have q := s.rel.cel b c e
    cases c with
    | lst us => obtain ⟨xs, e1, q1⟩ := q; exact ⟨xs, k _ _ hb e1, q1.stay st⟩
    | rol us => obtain ⟨u, xs, e1, q1⟩ := q; exact ⟨u, xs, k _ _ hb e1, q1.stay st⟩
    | dK us => obtain ⟨xs, e1, q1⟩ := q; exact ⟨xs, k _ _ hb e1, q1.stay st⟩
    | dT us => obtain ⟨xs, e1, q1⟩ := q; exact ⟨xs, k _ _ hb e1, q1.stay st⟩
    | ins C dx fs => obtain ⟨xs, e1, e2, q1⟩ := q; exact ⟨xs, k _ _ hb e1, k _ _ (fun z => by subst z; rw [hD] at e2; cases e2) e2, q1.stay st⟩
    | any u => exact ⟨k _ _ hb q.1, q.2⟩
    | rel φ =>
      obtain ⟨q1, w, r1⟩ := q
      obtain ⟨q2, w2⟩ := r1 H (upd H D (.lst ws)) (fun b u e n _ => k b u (fun z => by subst z; rw [hD] at e; cases e; exact n True.intro) e) q1 w
      exact ⟨q2, w2, r1⟩
theorem Stp.told {W : Wd} {H1 H : Hp} {vh1 vh : VH} {D : Addr} {vs : List V} {us : List U} (s : Stp W H1 vh1 H vh) (n : H1 D = none) (hD : H D = some (.lst vs)) (q : RelUs W.K H us vs) : Stp W H1 vh1 H (vput vh D (.lst us)) := by
  refine ⟨s.tup, s.fr, s.liv, fun b w e => ?_, ⟨fun b c e => ?_, s.rel.tab, s.rel.sta⟩⟩
  · have hb : b ≠ D := fun z => e (by rw [z]; exact n)
    rw [vput_ne hb]
    exact s.dom b w e
  · by_cases hb : b = D
    · subst hb; rw [vput_same] at e; cases e; exact ⟨vs, hD, q⟩
    · rw [vput_ne hb] at e; exact s.rel.cel b c e
/-- no exception -/
abbrev E0 : XK := fun _ _ _ => False
abbrev Z0 : XV := fun _ _ _ _ => False
theorem LX.none {W : Wd} {E : XK} {H : Hp} {vh : VH} : LX W E H vh Z0 := fun _ _ _ _ z => z.elim
/-- targets that store into the slots ws alone -/
def lGw (W : Wd) (ws : List Nat) (t : TGV) : TG := fun v σ H Q => ∃ u Γ vh R, RelU W.K H u v ∧ RelG W.K H Γ σ ∧ RelH W H vh ∧ t u Γ vh R Z0 ∧ ∀ Γ' vh', R Γ' vh' → ∀ σ' H', Stp W H vh H' vh' → RelG W.K H' Γ' σ' → wipe σ' ws = wipe σ ws → Q σ' H'
def lGsw (W : Wd) (ws : List Nat) (t : TGVs) : TGs := fun vs σ H Q => ∃ us Γ vh R, RelUs W.K H us vs ∧ RelG W.K H Γ σ ∧ RelH W H vh ∧ t us Γ vh R Z0 ∧ ∀ Γ' vh', R Γ' vh' → ∀ σ' H', Stp W H vh H' vh' → RelG W.K H' Γ' σ' → wipe σ' ws = wipe σ ws → Q σ' H'
abbrev VGw (X : Cx) (P : Pk) (ws : List Nat) (e : Expr) (t : TGV) : Prop := PG X e (lGw (wd X P) ws t)
abbrev VGsw (X : Cx) (P : Pk) (ws : List Nat) (es : List Expr) (t : TGVs) : Prop := PGs X es (lGsw (wd X P) ws t)
theorem vgw_name {i : Nat} {x : Str} {ws : List Nat} {pos : Pos} (hN : X.N.Nodup) (hi : X.N[i]? = some x) (hx : Loc X.env.scope x) (hw : i ∈ ws) (hf : X.fn x = true ∨ X.env.scope.names.lookup x = some .local := by first | exact .inl rfl | exact .inr rfl | assumption) : VGw X P ws (.Name x pos) (gN i) :=
  PG.asks (pg_name hN hi hx hf) fun v σ H Q ⟨u, Γ, vh, R, ru, g, r, q, k⟩ => k _ _ q _ _ (.refl r) (g.put i ru) (wipe_set hw)
theorem vgsw_nil {ws : List Nat} : VGsw X P ws [] gNl := PGs.asks pgs_nil fun v σ H Q ⟨us, Γ, vh, R, ru, g, r, q, k⟩ => by
  obtain ⟨rfl, q⟩ := q
  cases (show v = [] from ru)
  exact ⟨rfl, k _ _ q _ _ (.refl r) g rfl⟩
theorem vgsw_cons {e : Expr} {es : List Expr} {ws : List Nat} {t : TGV} {ts : TGVs} (h1 : VGw X P ws e t) (h2 : VGsw X P ws es ts) (hs : (assignEach (e :: es) X.env).map (·.2) = assign e X.env :: (assignEach es X.env).map (·.2) := by rfl) : VGsw X P ws (e :: es) (gCn t ts) := by
  refine PGs.asks (pgs_cons h1 h2 hs) fun v σ H Q ⟨us, Γ, vh, R, ru, g, r, q, k⟩ => ?_
  cases us with
  | nil => exact q.elim
  | cons w us =>
    obtain ⟨v1, vr, rfl, r1, r2⟩ := ru
    refine ⟨v1, vr, rfl, w, Γ, vh, _, r1, g, r, q, fun Γ1 vh1 q1 σ1 H1 s1 g1 w1 => ?_⟩
    exact ⟨us, Γ1, vh1, R, r2.stay s1.tup, g1, s1.rel, q1, fun Γ2 vh2 q2 σ2 H2 s2 g2 w2 => k _ _ q2 _ _ (s1.trans s2) g2 (w2.trans w1)⟩
theorem vgw_tup {es : List Expr} {k : Nat} {ws : List Nat} {t : TGVs} {pos : Pos} (n : Nat) (hc : X.calm = true) (h : VGsw X P ws es t) (hn : ∀ us Γ vh R Z, t us Γ vh R Z → us.length = n) (hl : (assignEach es X.env).length = n := by rfl) (hst : (assignEach es X.env).findIdx? (·.1) = none := by rfl) :
    VGw X P ws (.Tuple es k pos) (gTp t) := by
  refine PG.asks (pg_tup (n := n) hc h hl hst) fun v σ H Q ⟨u, Γ, vh, R, ru, g, r, q, k⟩ => ?_
  cases u <;> first | exact q.elim | skip
  · rename_i us
    obtain ⟨a, vs, rfl, sq, rs⟩ := ru
    exact ⟨a, vs, rfl, sq.t, by rw [rs.len]; exact hn _ _ _ _ _ q, us, Γ, vh, R, rs, g, r, q, k⟩
  · rename_i us
    obtain ⟨a, vs, rfl, sq, rs⟩ := ru
    exact ⟨a, vs, rfl, sq, by rw [rs.len]; exact hn _ _ _ _ _ q, us, Γ, vh, R, rs, g, r, q, k⟩
/-- [elt for target in iter if ..]: W by the turn, the list so far -/
def vLc (ti : TIV) (g : TGV) (tt : TVb) (te : TV) (ws : List Nat) : TV := fun Γ vh R Z => ti Γ vh (fun I vh1 => ∃ W : Nat → List U → VH → Prop, W 0 [] vh1 ∧ ∀ i acc vh', W i acc vh' → acc.length ≤ i → I.ok vh' ∧ (i = I.items.length → newL vh' acc R) ∧
  ∀ u, I.items[i]? = some u → i < sizeLine ∧ g u (wipeV Γ ws) vh' (fun Γ2 vh2 => tt Γ2 vh2 (fun b vh3 => if b = true then te Γ2 vh3 (fun y vh4 => W (i + 1) (acc ++ [y]) vh4) Z0 else W (i + 1) acc vh3) Z0) Z0) Z
abbrev VTs (X : Cx) (P : Pk) (E : XK) (ifs : List Expr) (t : TVb) : Prop := PTs X ifs (lT (wd X P) E t)
def vYes : TVb := fun _ vh R _ => R true vh
theorem PTs.asks {es : List Expr} {t u : TT} (h : PTs X es t) (i : ∀ σ H Q, u σ H Q → t σ H Q) : PTs X es u := ⟨fun pins s σ H Q I w => h.run pins s σ H Q I (i σ H Q w)⟩
theorem vts_nil : VTs X P E [] vYes := PTs.asks pts_nil fun σ H Q ⟨Γ, vh, R, Z, g, r, q, k, x⟩ => k _ _ q _ (.refl r)
theorem vts_one {c : Expr} {t : TVb} (h : VT X P E c t) : VTs X P E [c] t := pts_one h
theorem lc_lift {ti : TIV} {g : TGV} {tt : TVb} {te : TV} {ws : List Nat} : ∀ σ H Q, lE (wd X P) E (vLc ti g tt te ws) σ H Q → tLc (lI (wd X P) E ti) (lGw (wd X P) ws g) (lT (wd X P) E0 tt) (lE (wd X P) E0 te) ws σ H Q := by
  rintro σ H Q ⟨Γ, vh, R, Z, gg, r, q, k, x⟩
  refine ⟨Γ, vh, _, Z, gg, r, q, fun I vh1 q1 J H1 s1 lj D hD => ?_, x⟩
  obtain ⟨W, w0, turn⟩ := q1
  have sD : Stp (wd X P) H1 vh1 (upd H1 D (.lst [])) vh1 := Stp.new0 s1.rel hD
  refine ⟨fun i m H' => ∃ acc vs vh', i + m = I.items.length ∧ acc.length ≤ i ∧ W i acc vh' ∧ vh' D = none ∧ H' D = some (.lst vs) ∧ RelUs X.K H' acc vs ∧ Stp (wd X P) H1 vh1 H' vh', ⟨I.items.length, [], [], vh1, by omega, Nat.le_refl _, w0, s1.rel.fresh hD, upd_same, RelUs.nil, sD⟩, fun i m H' ⟨acc, vs, vh', em, la, w, vD, hD', qa, s⟩ => ?_⟩
  obtain ⟨ok, fin, step⟩ := turn i acc vh' w la
  obtain ⟨j1, j2⟩ := lj i H' vh' s.tup s.rel ok
  have s' := s1.trans s
  by_cases hm : m = 0
  · have hi : i = I.items.length := by omega
    exact .inl ⟨j1 hi, k _ _ (fin hi D vD) _ _ (s1.trans (s.told hD hD' qa)) rfl⟩
  · have hlt : i < I.items.length := by omega
    have hu : I.items[i]? = some I.items[i] := List.getElem?_eq_getElem hlt
    obtain ⟨go, y⟩ := j2 _ hu
    obtain ⟨hz, body⟩ := step _ hu
    have hDn : H' D ≠ none := by rw [hD']; simp
    refine .inr ⟨go, fun H2 => ∃ acc vs vh2, acc.length ≤ i + 1 ∧ W (i + 1) acc vh2 ∧ vh2 D = none ∧ H2 D = some (.lst vs) ∧ RelUs X.K H2 acc vs ∧ Stp (wd X P) H1 vh1 H2 vh2, fun H2 ⟨acc, vs, vh2, e1, e2, e3, e4, e5, e6⟩ => ⟨m - 1, by omega, acc, vs, vh2, by omega, e1, e2, e3, e4, e5, e6⟩, fun v H2 hy => ?_⟩
    obtain ⟨s2, r2⟩ := y v H2 hy
    have g2 : RelG X.K H2 (wipeV Γ ws) (wipe σ ws) := ((gg.wipe ws).stay s'.tup).stay s2.tup
    refine ⟨_, _, vh', _, r2, g2, s2.rel, body, fun Γ3 vh3 q3 σ3 H3 s3 g3 w3 => ⟨by rw [w3]; exact wipe_wipe, ?_⟩⟩
    refine ⟨Γ3, vh3, _, Z0, g3, s3.rel, q3, fun b vh4 q4 H4 s4 => ?_, LX.none⟩
    have s24 := (s2.trans s3).trans s4
    have D4 : H4 D = some (.lst vs) := s24.fr D _ hD' (fun _ z => by cases z) vD
    have v4 : vh4 D = none := s24.dom D vD hDn
    cases b with
    | false => exact ⟨acc, vs, vh4, Nat.le_succ_of_le la, q4, v4, D4, qa.stay s24.tup, s.trans s24⟩
    | true =>
      refine ⟨Γ3, vh4, _, Z0, g3.stay s4.tup, s4.rel, q4, fun z vh5 q5 yv H5 s5 r5 => ?_, LX.none⟩
      have D5 : H5 D = some (.lst vs) := s5.fr D _ D4 (fun _ z => by cases z) v4
      have v5 : vh5 D = none := s5.dom D v4 (by rw [D4]; simp)
      have sA := s.trans (s24.trans s5)
      have sB : Stp (wd X P) H1 vh1 (upd H5 D (.lst (vs ++ [yv]))) vh5 := sA.side hD D5 v5
      have st : TupStay H5 (upd H5 D (.lst (vs ++ [yv]))) := ⟨fun b xs e => by rw [upd_ne (fun z => by subst z; rw [D5] at e; cases e)]; exact e, fun b o u e => by rw [upd_ne (fun z => by subst z; rw [D5] at e; cases e)]; exact e⟩
      refine ⟨vs, D5, by rw [qa.len]; omega, acc ++ [z], vs ++ [yv], vh5, by rw [List.length_append]; simp; exact la, q5, v5, upd_same, ?_, sB⟩
      exact ((qa.stay (s24.trans s5).tup).stay st).app (RelUs.cons (r5.stay st) RelUs.nil)
theorem ve_lc {elt iter : Expr} {ifs : List Expr} {scope : Scope} {own : List (Str × Nat)} {ws : List Nat} {pos : Pos} {ti : TIV} {g : TGV} {tt : TVb} {te : TV} (hc : X.calm = true) (hN : X.N.Nodup) (hi : VI X P E tg iter ti) (ok : BlkOk X.N X.env.scope scope own)
    (hg : ∀ (s : Shared) (H : Hp) (C : Addr) (cl : List (Str × Addr)) (fp : List Addr), VGw (X.blk s H scope (compEnvC scope cl C X.env) fp) P ws tg g) (ht : ∀ (s : Shared) (H : Hp) (C : Addr) (cl : List (Str × Addr)) (fp : List Addr), VTs (X.blk s H scope (compEnvC scope cl C X.env) fp) P E0 ifs tt)
    (he : ∀ (s : Shared) (H : Hp) (C : Addr) (cl : List (Str × Addr)) (fp : List Addr), VE (X.blk s H scope (compEnvC scope cl C X.env) fp) P E0 elt te) (hs : ∀ x, foldedSetIterable iter X.env x = pure x := by intro _; rfl) (hw : own.map (·.2) = ws := by rfl) :
    VE X P E (.ListComp elt [⟨tg, iter, ifs, 0⟩] scope pos) (vLc ti g tt te ws) := by
  subst hw
  exact PE.asks (pe_lc hc hN hi ok hg ht he hs) lc_lift
/-- name = [..] on one line -/
theorem vs_setLc {i : Nat} {y : Str} {py : Pos} {elt iter : Expr} {ifs : List Expr} {scope : Scope} {own : List (Str × Nat)} {pos spos : Pos} {ti : TIV} {g : TGV} {tt : TVb} {te : TV}
    (h : PS X (.Assign [.Name y py] (.ListComp elt [⟨tg, iter, ifs, 0⟩] scope pos) spos) (tAsg (tLc (lI (wd X P) E ti) (lGw (wd X P) (own.map (·.2)) g) (lT (wd X P) E0 tt) (lE (wd X P) E0 te) (own.map (·.2))) (gName i))) :
    VS X P E (.Assign [.Name y py] (.ListComp elt [⟨tg, iter, ifs, 0⟩] scope pos) spos) (sAsg (vLc ti g tt te (own.map (·.2))) (gN i)) := by
  refine PS.asks h fun D σ H ⟨Γ, vh, R, Z, gg, r, q, l, x⟩ => ?_
  exact lc_lift σ H _ ⟨Γ, vh, _, Z, gg, r, q, fun u vh1 q1 v H1 s1 r1 => l.nx _ _ q1 _ _ s1 ((gg.stay s1.tup).put i r1), x⟩
end
end VL

-- part V6
set_option Elab.async false
set_option linter.all false
set_option maxRecDepth 100000
set_option maxHeartbeats 4000000
/-! Layer V, part 6: built-ins and methods. -/
namespace VL
open PySem PySem.Spec PyProof.Rows L2
section
variable {X : Cx} {P : Pk} {E : XK} {e a : Expr} {es : List Expr} {te ta : TV} {t : TVa} {p pos apos : Pos} {x : Str} {id T : String}

/-- a call by values -/
abbrev RCV := Option (Addr × List Int) → VH → List U → (U → VH → Prop) → Prop
def MetC (X : Cx) (P : Pk) (r' : List V → Hp → VK → Prop) (r : RCV) : Prop := ∀ (H : Hp) (vh : VH) (us : List U) (vs : List V) (R : U → VH → Prop) (Q : VK), RelH (wd X P) H vh → RelUs X.K H us vs → r P.S vh us R →
  (∀ u vh', R u vh' → ∀ v H', Stp (wd X P) H vh H' vh' → RelU X.K H' u v → Q v H') → r' vs H Q
def vCB (S : Option (Addr × List Int)) (r : RCV) (t : TVa) : TV := fun Γ vh R Z => t Γ vh (fun us vh1 => r S vh1 us R) Z
theorem met_tCB {r' : List V → Hp → VK → Prop} {r : RCV} (m : MetC X P r' r) : ∀ σ H Q, lE (wd X P) E (vCB P.S r t) σ H Q → tCB r' (lA (wd X P) E t) σ H Q := by
  rintro σ H Q ⟨Γ, vh, R, Z, g, rh, q, k, x⟩
  exact ⟨Γ, vh, _, Z, g, rh, q, fun us vh1 q1 vs H1 s1 r1 => m H1 vh1 us vs R Q s1.rel r1 q1 fun z vh3 q3 v3 H3 s3 r3 => k _ _ q3 _ _ (s1.trans s3) r3, x⟩
theorem ve_callB {r' : List V → Hp → VK → Prop} {r : RCV} (hc : CallR X (.builtin id) r') (m : MetC X P r' r) (hg : Gl X x) (hm : X.mg x = none) (hv : bootBuiltins x = some (.builtin id)) (ha : VA X P E (e :: es) t) (hn : x ≠ "__name__" := by decide) (hdb : (x == ("__debug__" : Str)) = false := by decide)
    (he : starEach (e :: es) X.env = (false, eval e X.env) :: starEach es X.env := by rfl) (hpl : (backTo pos (starEach es X.env)).any (·.1) = false := by rfl) : VE X P E (.Call (.Name x p) (e :: es) [] pos) (vCB P.S r t) :=
  PE.asks (pe_callB hc hg hm hv ha hn hdb he hpl) (met_tCB m)
theorem ve_callTy {r' : List V → Hp → VK → Prop} {r : RCV} (hc : CallR X (.type T) r') (m : MetC X P r' r) (hg : Gl X x) (hm : X.mg x = none) (hv : bootBuiltins x = some (.type T)) (ha : VA X P E (e :: es) t) (hn : x ≠ "__name__" := by decide) (hdb : (x == ("__debug__" : Str)) = false := by decide)
    (he : starEach (e :: es) X.env = (false, eval e X.env) :: starEach es X.env := by rfl) (hpl : (backTo pos (starEach es X.env)).any (·.1) = false := by rfl) : VE X P E (.Call (.Name x p) (e :: es) [] pos) (vCB P.S r t) :=
  PE.asks (pe_callTy hc hg hm hv ha hn hdb he hpl) (met_tCB m)
theorem CallR.or {f : Value} {r r' : List V → Hp → VK → Prop} (h : CallR X f r) (h' : CallR X f r') : CallR X f (fun xs H Q => r xs H Q ∨ r' xs H Q) := by
  intro pins s σ H xs us Q I rs q
  rcases q with q | q
  · exact h pins s σ H xs us Q I rs q
  · exact h' pins s σ H xs us Q I rs q
theorem RelUs.one {K : PySem.W.Frag} {H : Hp} {u : U} {vs : List V} (h : RelUs K H [u] vs) : ∃ v, vs = [v] ∧ RelU K H u v := by
  obtain ⟨v, r, rfl, h1, h2⟩ := h
  cases (show r = [] from h2)
  exact ⟨v, rfl, h1⟩
theorem RelUs.two {K : PySem.W.Frag} {H : Hp} {u w : U} {vs : List V} (h : RelUs K H [u, w] vs) : ∃ v z, vs = [v, z] ∧ RelU K H u v ∧ RelU K H w z := by
  obtain ⟨v, r, rfl, h1, h2⟩ := h
  obtain ⟨z, rfl, h3⟩ := RelUs.one h2
  exact ⟨v, z, rfl, h1, h3⟩

/-- len -/
def lenV : RCV := fun S vh us R => match us with
  | [u] => (match asSq S vh u with
    | some xs => R (.int xs.length) vh
    | none => match u with
      | .ref a => (match vh a with
        | some (.dK kvs) => R (.int kvs.length) vh
        | _ => False)
      | .sta ns => R (.int ns.length) vh
      | _ => False)
  | _ => False
theorem RelKV.len {κ : Type} {K : PySem.W.Frag} {H : Hp} : ∀ {fs : List (κ × U)} {gs : List (κ × V)}, RelKV K H fs gs → gs.length = fs.length
  | [], _, h => by cases (show _ = [] from h); rfl
  | _ :: _, _, h => by
    obtain ⟨v, r, rfl, _, h2⟩ := h
    simp [RelKV.len h2]
theorem met_len : MetC X P (fun xs H Q => (∃ p ys, xs = [.ref p] ∧ (SqL X.K H p ys ∨ SqT X.K H p ys) ∧ Q (.int ys.length) H) ∨ (∃ a kvs, xs = [V.ref a] ∧ H a = some (.dK kvs) ∧ Q (.int kvs.length) H)) lenV := by
  intro H vh us vs R Q r rs h k
  unfold lenV at h
  split at h
  · obtain ⟨v, rfl, ru⟩ := rs.one
    split at h
    · rename_i xs ex
      obtain ⟨a, ys, rfl, q, c⟩ := asSq.cases r ex ru
      refine .inl ⟨a, ys, rfl, ?_, by rw [q.len]; exact k _ _ h _ _ (.refl r) rfl⟩
      rcases c with ⟨_, c⟩ | ⟨_, c⟩
      · exact .inr c
      · exact .inl c
    · split at h
      · split at h
        · rename_i ev
          obtain ⟨ws, e1, q⟩ := r.cel _ _ ev
          exact .inr ⟨_, ws, by rw [show v = _ from ru], e1, by rw [q.len]; exact k _ _ h _ _ (.refl r) rfl⟩
        · exact h.elim
      · rename_i ns _
        obtain ⟨a, rfl, q⟩ := ru
        exact .inl ⟨a, _, rfl, .inl (q H), by simp only [List.length_map]; exact k _ _ h _ _ (.refl r) rfl⟩
      · exact h.elim
  · exact h.elim
theorem ve_len (hg : Gl X "len") (hm : X.mg "len" = none) (ha : VA X P E [e] t) (he : starEach [e] X.env = (false, eval e X.env) :: starEach [] X.env := by rfl) (hpl : (backTo pos (starEach [] X.env)).any (·.1) = false := by rfl) :
    VE X P E (.Call (.Name "len" p) [e] [] pos) (vCB P.S lenV t) := ve_callB (CallR.or call_len_seq call_lenD) met_len hg hm PySem.boot_len ha (by decide) (by decide) he hpl
/-- list(..), tuple(..) of a list or a tuple -/
def listV : RCV := fun S vh us R => match us with
  | [u] => (match asSq S vh u with
    | some xs => newL vh xs R
    | none => False)
  | _ => False
theorem met_list : MetC X P (fun xs H Q => ∃ p ys, xs = [.ref p] ∧ (SqL X.K H p ys ∨ SqT X.K H p ys) ∧ ∀ l, H l = none → Q (.ref l) (upd H l (.lst ys))) listV := by
  intro H vh us vs R Q r rs h k
  unfold listV at h
  split at h
  · obtain ⟨v, rfl, ru⟩ := rs.one
    split at h
    · rename_i xs ex
      obtain ⟨a, ys, rfl, q, c⟩ := asSq.cases r ex ru
      refine ⟨a, ys, rfl, ?_, fun l n => newL.met r h q k n⟩
      rcases c with ⟨_, c⟩ | ⟨_, c⟩
      · exact .inr c
      · exact .inl c
    · exact h.elim
  · exact h.elim
def tupleV : RCV := fun S vh us R => match us with
  | [.tup xs] => R (.tup xs) vh
  | [u] => (match asL S vh u with
    | some xs => R (.tup xs) vh
    | none => False)
  | _ => False
theorem met_tuple : MetC X P (fun xs H Q => ∃ p ys, xs = [.ref p] ∧ ((SqL X.K H p ys ∧ NewF H ys Q) ∨ (SqT X.K H p ys ∧ Q (.ref p) H))) tupleV := by
  intro H vh us vs R Q r rs h k
  unfold tupleV at h
  split at h
  · obtain ⟨v, rfl, a, ys, rfl, c, q⟩ := rs.one
    exact ⟨a, ys, rfl, .inr ⟨c.t, k _ _ h _ _ (.refl r) ⟨a, ys, rfl, c, q⟩⟩⟩
  · obtain ⟨v, rfl, ru⟩ := rs.one
    split at h
    · rename_i xs ex
      obtain ⟨a, ys, rfl, c, q⟩ := asL.sq r ex ru
      exact ⟨a, ys, rfl, .inl ⟨c, newT.met r h q k⟩⟩
    · exact h.elim
  · exact h.elim
theorem ve_listC (hg : Gl X "list") (hm : X.mg "list" = none) (ha : VA X P E [e] t) (he : starEach [e] X.env = (false, eval e X.env) :: starEach [] X.env := by rfl) (hpl : (backTo pos (starEach [] X.env)).any (·.1) = false := by rfl) :
    VE X P E (.Call (.Name "list" p) [e] [] pos) (vCB P.S listV t) := ve_callTy call_list_of met_list hg hm (by decide +kernel) ha (by decide) (by decide) he hpl
theorem ve_tupleC (hg : Gl X "tuple") (hm : X.mg "tuple" = none) (ha : VA X P E [e] t) (he : starEach [e] X.env = (false, eval e X.env) :: starEach [] X.env := by rfl) (hpl : (backTo pos (starEach [] X.env)).any (·.1) = false := by rfl) :
    VE X P E (.Call (.Name "tuple" p) [e] [] pos) (vCB P.S tupleV t) := ve_callTy call_tupleF met_tuple hg hm (by decide +kernel) ha (by decide) (by decide) he hpl
/-- int, abs -/
def intV1 : RCV := fun _ vh us R => match us with
  | [.int i] => R (.int i) vh
  | [.bl b] => R (.int (if b then 1 else 0)) vh
  | _ => False
theorem met_int : MetC X P (fun xs H Q => (∃ i, xs = [.int i] ∧ Q (.int i) H) ∨ ∃ k, xs = [.bl k] ∧ Q (.int (if k then 1 else 0)) H) intV1 := by
  intro H vh us vs R Q r rs h k
  unfold intV1 at h
  split at h
  · obtain ⟨v, rfl, ru⟩ := rs.one
    exact .inl ⟨_, by rw [show v = _ from ru], k _ _ h _ _ (.refl r) rfl⟩
  · obtain ⟨v, rfl, ru⟩ := rs.one
    exact .inr ⟨_, by rw [show v = _ from ru], k _ _ h _ _ (.refl r) rfl⟩
  · exact h.elim
theorem ve_int1 (hg : Gl X "int") (hm : X.mg "int" = none) (ha : VA X P E [e] t) (he : starEach [e] X.env = (false, eval e X.env) :: starEach [] X.env := by rfl) (hpl : (backTo pos (starEach [] X.env)).any (·.1) = false := by rfl) :
    VE X P E (.Call (.Name "int" p) [e] [] pos) (vCB P.S intV1 t) := ve_callTy call_int1 met_int hg hm (by decide +kernel) ha (by decide) (by decide) he hpl
def absV1 : RCV := fun _ vh us R => match us with
  | [.int i] => R (.int (if i < 0 then -i else i)) vh
  | _ => False
theorem met_abs : MetC X P (fun xs H Q => ∃ i, xs = [.int i] ∧ Q (.int (if i < 0 then -i else i)) H) absV1 := by
  intro H vh us vs R Q r rs h k
  unfold absV1 at h
  split at h
  · obtain ⟨v, rfl, ru⟩ := rs.one
    exact ⟨_, by rw [show v = _ from ru], k _ _ h _ _ (.refl r) rfl⟩
  · exact h.elim
theorem ve_abs (hg : Gl X "abs") (hm : X.mg "abs" = none) (ha : VA X P E [e] t) (he : starEach [e] X.env = (false, eval e X.env) :: starEach [] X.env := by rfl) (hpl : (backTo pos (starEach [] X.env)).any (·.1) = false := by rfl) :
    VE X P E (.Call (.Name "abs" p) [e] [] pos) (vCB P.S absV1 t) := ve_callB call_abs met_abs hg hm (by decide +kernel) ha (by decide) (by decide) he hpl
/-- the ints, the bools of a list -/
def intsOf : List U → Option (List Int)
  | [] => some []
  | .int i :: us => (intsOf us).map (i :: ·)
  | _ :: _ => none
def blsOf : List U → Option (List Bool)
  | [] => some []
  | .bl b :: us => (blsOf us).map (b :: ·)
  | _ :: _ => none
theorem intsOf_map : ∀ ns : List Int, intsOf (ns.map U.int) = some ns
  | [] => rfl
  | n :: ns => by simp [intsOf, intsOf_map ns]
theorem blsOf_map : ∀ ns : List Bool, blsOf (ns.map U.bl) = some ns
  | [] => rfl
  | n :: ns => by simp [blsOf, blsOf_map ns]
theorem intsOf_eq : ∀ {us : List U} {ns : List Int}, intsOf us = some ns → us = ns.map U.int
  | [], _, h => by cases h; rfl
  | u :: us, ns, h => by
    cases u <;> simp [intsOf] at h
    obtain ⟨ms, h1, rfl⟩ := h
    rw [intsOf_eq h1]
    rfl
theorem blsOf_eq : ∀ {us : List U} {ns : List Bool}, blsOf us = some ns → us = ns.map U.bl
  | [], _, h => by cases h; rfl
  | u :: us, ns, h => by
    cases u <;> simp [blsOf] at h
    obtain ⟨ms, h1, rfl⟩ := h
    rw [blsOf_eq h1]
    rfl
theorem RelUs.bls_of {K : PySem.W.Frag} {H : Hp} : ∀ {ns : List Bool} {vs : List V}, RelUs K H (ns.map U.bl) vs → vs = ns.map V.bl
  | [], _, h => h
  | n :: ns, _, h => by
    obtain ⟨v, r, rfl, h1, h2⟩ := h
    rw [show v = V.bl n from h1, RelUs.bls_of h2]
    rfl
/-- of a list of ints, of bools -/
def ofInts (f : List Int → VH → (U → VH → Prop) → Prop) : RCV := fun S vh us R => match us with
  | [u] => (match asL S vh u with
    | some xs => (match intsOf xs with
      | some ns => f ns vh R
      | none => False)
    | none => False)
  | _ => False
theorem ofInts.met {W : Wd} {H : Hp} {vh : VH} {us : List U} {vs : List V} {f : List Int → VH → (U → VH → Prop) → Prop} {R : U → VH → Prop} (r : RelH W H vh) (rs : RelUs W.K H us vs) (h : ofInts f W.S vh us R) :
    ∃ a ns, vs = [.ref a] ∧ SqL W.K H a (ns.map V.int) ∧ f ns vh R := by
  unfold ofInts at h
  split at h
  · obtain ⟨v, rfl, ru⟩ := rs.one
    split at h
    · rename_i xs ex
      split at h
      · rename_i ns en
        obtain ⟨a, ys, rfl, s, q⟩ := asL.sq r ex ru
        rw [intsOf_eq en] at q
        rw [q.ints_of] at s
        exact ⟨a, ns, rfl, s, h⟩
      · exact h.elim
    · exact h.elim
  · exact h.elim
def ofBls (f : List Bool → VH → (U → VH → Prop) → Prop) : RCV := fun S vh us R => match us with
  | [u] => (match asL S vh u with
    | some xs => (match blsOf xs with
      | some ns => f ns vh R
      | none => False)
    | none => False)
  | _ => False
theorem ofBls.met {W : Wd} {H : Hp} {vh : VH} {us : List U} {vs : List V} {f : List Bool → VH → (U → VH → Prop) → Prop} {R : U → VH → Prop} (r : RelH W H vh) (rs : RelUs W.K H us vs) (h : ofBls f W.S vh us R) :
    ∃ a ns, vs = [.ref a] ∧ SqL W.K H a (ns.map V.bl) ∧ f ns vh R := by
  unfold ofBls at h
  split at h
  · obtain ⟨v, rfl, ru⟩ := rs.one
    split at h
    · rename_i xs ex
      split at h
      · rename_i ns en
        obtain ⟨a, ys, rfl, s, q⟩ := asL.sq r ex ru
        rw [blsOf_eq en] at q
        rw [q.bls_of] at s
        exact ⟨a, ns, rfl, s, h⟩
      · exact h.elim
    · exact h.elim
  · exact h.elim
abbrev sumV : RCV := ofInts fun ns vh R => R (.int ns.sum) vh
abbrev maxV : RCV := ofInts fun ns vh R => 0 < ns.length ∧ ∀ m, m ∈ ns → (∀ y, y ∈ ns → y ≤ m) → R (.int m) vh
abbrev minV : RCV := ofInts fun ns vh R => 0 < ns.length ∧ ∀ m, m ∈ ns → (∀ y, y ∈ ns → m ≤ y) → R (.int m) vh
abbrev allV : RCV := ofBls fun bs vh R => R (.bl (bs.all fun b => b)) vh
abbrev anyV : RCV := ofBls fun bs vh R => R (.bl (bs.any fun b => b)) vh
theorem met_sum : MetC X P (rSum X.K) sumV := fun H vh us vs R Q r rs h k => by
  obtain ⟨a, ns, rfl, s, q⟩ := ofInts.met (W := wd X P) r rs h
  exact ⟨a, ns, rfl, s, k _ _ q _ _ (.refl r) rfl⟩
theorem met_max : MetC X P (rMax X.K) maxV := fun H vh us vs R Q r rs h k => by
  obtain ⟨a, ns, rfl, s, q0, q⟩ := ofInts.met (W := wd X P) r rs h
  exact ⟨a, ns, rfl, s, q0, fun m h1 h2 => k _ _ (q m h1 h2) _ _ (.refl r) rfl⟩
theorem met_min : MetC X P (rMin X.K) minV := fun H vh us vs R Q r rs h k => by
  obtain ⟨a, ns, rfl, s, q0, q⟩ := ofInts.met (W := wd X P) r rs h
  exact ⟨a, ns, rfl, s, q0, fun m h1 h2 => k _ _ (q m h1 h2) _ _ (.refl r) rfl⟩
theorem met_all : MetC X P (rAll X.K) allV := fun H vh us vs R Q r rs h k => by
  obtain ⟨a, ns, rfl, s, q⟩ := ofBls.met (W := wd X P) r rs h
  exact ⟨a, ns, rfl, s, k _ _ q _ _ (.refl r) rfl⟩
theorem met_any : MetC X P (rAny X.K) anyV := fun H vh us vs R Q r rs h k => by
  obtain ⟨a, ns, rfl, s, q⟩ := ofBls.met (W := wd X P) r rs h
  exact ⟨a, ns, rfl, s, k _ _ q _ _ (.refl r) rfl⟩
theorem ve_sum (hc : X.calm = true) (hg : Gl X "sum") (hm : X.mg "sum" = none) (ha : VA X P E [e] t) (he : starEach [e] X.env = (false, eval e X.env) :: starEach [] X.env := by rfl) (hpl : (backTo pos (starEach [] X.env)).any (·.1) = false := by rfl) :
    VE X P E (.Call (.Name "sum" p) [e] [] pos) (vCB P.S sumV t) := ve_callB (cr_sum hc) met_sum hg hm (by decide +kernel) ha (by decide) (by decide) he hpl
theorem ve_max (hc : X.calm = true) (hg : Gl X "max") (hm : X.mg "max" = none) (ha : VA X P E [e] t) (he : starEach [e] X.env = (false, eval e X.env) :: starEach [] X.env := by rfl) (hpl : (backTo pos (starEach [] X.env)).any (·.1) = false := by rfl) :
    VE X P E (.Call (.Name "max" p) [e] [] pos) (vCB P.S maxV t) := ve_callB (cr_max hc) met_max hg hm (by decide +kernel) ha (by decide) (by decide) he hpl
theorem ve_min (hc : X.calm = true) (hg : Gl X "min") (hm : X.mg "min" = none) (ha : VA X P E [e] t) (he : starEach [e] X.env = (false, eval e X.env) :: starEach [] X.env := by rfl) (hpl : (backTo pos (starEach [] X.env)).any (·.1) = false := by rfl) :
    VE X P E (.Call (.Name "min" p) [e] [] pos) (vCB P.S minV t) := ve_callB (cr_min hc) met_min hg hm (by decide +kernel) ha (by decide) (by decide) he hpl
theorem ve_all (hc : X.calm = true) (hg : Gl X "all") (hm : X.mg "all" = none) (ha : VA X P E [e] t) (he : starEach [e] X.env = (false, eval e X.env) :: starEach [] X.env := by rfl) (hpl : (backTo pos (starEach [] X.env)).any (·.1) = false := by rfl) :
    VE X P E (.Call (.Name "all" p) [e] [] pos) (vCB P.S allV t) := ve_callB (cr_all hc) met_all hg hm (by decide +kernel) ha (by decide) (by decide) he hpl
theorem ve_any (hc : X.calm = true) (hg : Gl X "any") (hm : X.mg "any" = none) (ha : VA X P E [e] t) (he : starEach [e] X.env = (false, eval e X.env) :: starEach [] X.env := by rfl) (hpl : (backTo pos (starEach [] X.env)).any (·.1) = false := by rfl) :
    VE X P E (.Call (.Name "any" p) [e] [] pos) (vCB P.S anyV t) := ve_callB (cr_any hc) met_any hg hm (by decide +kernel) ha (by decide) (by decide) he hpl
/-- max, min of two ints -/
def two (f : Int → Int → Int) : RCV := fun _ vh us R => match us with
  | [.int i, .int j] => R (.int (f i j)) vh
  | _ => False
theorem met_two {f : Int → Int → Int} : MetC X P (fun xs H Q => ∃ i j, xs = [.int i, .int j] ∧ Q (.int (f i j)) H) (two f) := by
  intro H vh us vs R Q r rs h k
  unfold two at h
  split at h
  · obtain ⟨v, w, rfl, h1, h2⟩ := rs.two
    exact ⟨_, _, by rw [show v = _ from h1, show w = _ from h2], k _ _ h _ _ (.refl r) rfl⟩
  · exact h.elim
theorem ve_max2 {e2 : Expr} (hc : X.calm = true) (hg : Gl X "max") (hm : X.mg "max" = none) (ha : VA X P E [e, e2] t) (he : starEach [e, e2] X.env = (false, eval e X.env) :: starEach [e2] X.env := by rfl) (hpl : (backTo pos (starEach [e2] X.env)).any (·.1) = false := by rfl) :
    VE X P E (.Call (.Name "max" p) [e, e2] [] pos) (vCB P.S (two fun i j => if j > i then j else i) t) := ve_callB (call_max2 hc) met_two hg hm (by decide +kernel) ha (by decide) (by decide) he hpl
theorem ve_min2 {e2 : Expr} (hc : X.calm = true) (hg : Gl X "min") (hm : X.mg "min" = none) (ha : VA X P E [e, e2] t) (he : starEach [e, e2] X.env = (false, eval e X.env) :: starEach [e2] X.env := by rfl) (hpl : (backTo pos (starEach [e2] X.env)).any (·.1) = false := by rfl) :
    VE X P E (.Call (.Name "min" p) [e, e2] [] pos) (vCB P.S (two fun i j => if j < i then j else i) t) := ve_callB (call_min2 hc) met_two hg hm (by decide +kernel) ha (by decide) (by decide) he hpl

/-! ### isinstance of a built-in class -/
def tyU (S : Option (Addr × List Int)) (vh : VH) : U → Option String
  | .non => some "NoneType"
  | .bl _ => some "bool"
  | .int _ => some "int"
  | .str _ => some "str"
  | .tup _ => some "tuple"
  | .tupw _ => some "tuple"
  | .sta _ => none
  | .ref a => match vh a with
    | some (.lst _) => some "list"
    | some (.dK _) => some "dict"
    | some (.dT _) => some "dict"
    | _ => none
theorem tyU.tx {W : Wd} {H : Hp} {vh : VH} {u : U} {v : V} {n : String} (r : RelH W H vh) (h : tyU W.S vh u = some n) (ru : RelU W.K H u v) : TyX W.K H v (.type n) := by
  cases u with
  | non => cases h; cases (show v = _ from ru); exact .base .non
  | bl b => cases h; cases (show v = _ from ru); exact .base (.bl b)
  | int b => cases h; cases (show v = _ from ru); exact .base (.int b)
  | str b => cases h; cases (show v = _ from ru); exact .base (.str b)
  | tup us =>
    cases h
    obtain ⟨a, vs, rfl, s, _⟩ := ru
    rcases s.t with (s | ⟨o, s⟩) | ⟨o, its, m, k, c, _⟩
    · exact .base (.tup s)
    · exact .fTuple s
    · exact .kTuple k c
  | tupw us =>
    cases h
    obtain ⟨a, vs, rfl, s, _⟩ := ru
    rcases s with (s | ⟨o, s⟩) | ⟨o, its, m, k, c, _⟩
    · exact .base (.tup s)
    · exact .fTuple s
    · exact .kTuple k c
  | sta ns => cases h
  | ref a =>
    cases (show v = _ from ru)
    simp only [tyU] at h
    split at h
    · rename_i e
      cases h
      obtain ⟨vs, e1, _⟩ := r.cel _ _ e
      exact .base (.lst e1)
    · rename_i e
      cases h
      obtain ⟨vs, e1, _⟩ := r.cel _ _ e
      exact .base (.dK e1)
    · rename_i e
      cases h
      obtain ⟨vs, e1, _⟩ := r.cel _ _ e
      exact .base (.dT e1)
    · cases h
def vIsi (S : Option (Addr × List Int)) (T : String) (te : TV) : TV := fun Γ vh R Z => te Γ vh (fun u vh1 => match tyU S vh1 u with
  | some n => (match kitB n T with
    | some b => R (.bl b) vh1
    | none => False)
  | none => False) Z
theorem ve_isi {y : Str} {p2 : Pos} (hg : Gl X "isinstance") (hm : X.mg "isinstance" = none) (hg2 : Gl X y) (hm2 : X.mg y = none) (hy : bootBuiltins y = some (.type T)) (ha : VE X P E e te) (hy1 : y ≠ "__name__" := by decide) (hy2 : (y == ("__debug__" : Str)) = false := by decide)
    (he : starEach [e, .Name y p2] X.env = (false, eval e X.env) :: starEach [.Name y p2] X.env := by rfl) (hs : starEach [.Name y p2] X.env = (false, eval (.Name y p2) X.env) :: starEach [] X.env := by rfl) (hpl : (backTo pos (starEach [.Name y p2] X.env)).any (·.1) = false := by rfl) :
    VE X P E (.Call (.Name "isinstance" p) [e, .Name y p2] [] pos) (vIsi P.S T te) := by
  have hE : PE X (.Name y p2) (tC (.ty T)) := pe_bltn hg2 hm2 hy rfl hy1 hy2
  refine PE.asks (pe_callB call_isi hg hm (by decide +kernel) (pa_cons ha (pa_cons hE pa_nil hs) he) (by decide) (by decide) he hpl) fun σ H Q ⟨Γ, vh, R, Z, g, r, q, k, x⟩ => ?_
  refine ⟨Γ, vh, _, Z, g, r, q, fun u vh1 q1 v H1 s1 r1 => ?_, x⟩
  split at q1
  · rename_i n en
    split at q1
    · rename_i b eb
      exact ⟨v, .ty T, .type n, .type T, b, rfl, .ty T, tyU.tx (W := wd X P) s1.rel en r1, kit_ty eb, k _ _ q1 _ _ s1 rfl⟩
    · exact q1.elim
  · exact q1.elim
end
end VL

-- part E3
set_option Elab.async false
set_option linter.all false
set_option maxRecDepth 100000
set_option maxHeartbeats 4000000
/-! sorted(..) of a list of tuples of ints, of any lengths. -/
namespace VL
open PySem PySem.Spec PyProof.Rows L2
/-- the order -/
abbrev ltL : List Int → List Int → Bool := HT.lexLt

/-! ### the order of lists of ints -/
theorem lex_asym : ∀ {x y : List Int}, HT.lexLt x y = true → HT.lexLt y x = false
  | [], [], h => by simp [HT.lexLt] at h
  | [], _ :: _, _ => rfl
  | _ :: _, [], h => by simp [HT.lexLt] at h
  | a :: x, b :: y, h => by
    simp only [HT.lexLt] at h ⊢
    by_cases e : a = b
    · subst e
      simp only [if_true] at h ⊢
      exact lex_asym h
    · rw [if_neg e] at h
      rw [if_neg (Ne.symm e)]
      have := of_decide_eq_true h
      exact decide_eq_false (by omega)
theorem lex_tr : ∀ {x y z : List Int}, HT.lexLt y x = false → HT.lexLt z y = false → HT.lexLt z x = false
  | [], _, [], _, _ => rfl
  | _ :: _, [], _, h, _ => by simp [HT.lexLt] at h
  | x, _ :: _, [], _, g => by simp [HT.lexLt] at g
  | [], [], _ :: _, _, _ => rfl
  | [], _ :: _, _ :: _, _, _ => rfl
  | a :: x, b :: y, c :: z, h, g => by
    simp only [HT.lexLt] at h g ⊢
    by_cases e : b = a
    · subst e
      by_cases e2 : c = b
      · subst e2
        simp only [if_true] at h g ⊢
        exact lex_tr h g
      · rw [if_neg e2] at g ⊢
        exact g
    · rw [if_neg e] at h
      have h := of_decide_eq_false h
      by_cases e2 : c = b
      · subst e2
        rw [if_neg e]
        exact decide_eq_false h
      · rw [if_neg e2] at g
        have g := of_decide_eq_false g
        rw [if_neg (by omega)]
        exact decide_eq_false (by omega)
theorem lex_anti : ∀ {x y : List Int}, HT.lexLt x y = false → HT.lexLt y x = false → x = y
  | [], [], _, _ => rfl
  | [], _ :: _, h, _ => by simp [HT.lexLt] at h
  | _ :: _, [], _, g => by simp [HT.lexLt] at g
  | a :: x, b :: y, h, g => by
    simp only [HT.lexLt] at h g
    by_cases e : a = b
    · subst e
      simp only [if_true] at h g
      rw [lex_anti h g]
    · rw [if_neg e] at h
      rw [if_neg (Ne.symm e)] at g
      have := of_decide_eq_false h
      have := of_decide_eq_false g
      omega
/-- put in its place; the sorted list -/
def insL (x : List Int) : List (List Int) → List (List Int)
  | [] => [x]
  | y :: r => if HT.lexLt y x = true then y :: insL x r else x :: y :: r
def sortL : List (List Int) → List (List Int)
  | [] => []
  | x :: r => insL x (sortL r)
abbrev SrtL (l : List (List Int)) : Prop := l.Pairwise fun x y => HT.lexLt y x = false
theorem insL_perm {x : List Int} : ∀ {l : List (List Int)}, (insL x l).Perm (x :: l)
  | [] => .refl _
  | y :: r => by
    unfold insL
    split
    · exact (List.Perm.cons y insL_perm).trans (List.Perm.swap x y r)
    · exact .refl _
theorem sortL_perm : ∀ {l : List (List Int)}, (sortL l).Perm l
  | [] => .refl _
  | x :: r => insL_perm.trans (List.Perm.cons x sortL_perm)
theorem insL_srt {x : List Int} : ∀ {l : List (List Int)}, SrtL l → SrtL (insL x l)
  | [], _ => List.pairwise_singleton _ _
  | y :: r, h => by
    obtain ⟨h1, h2⟩ := List.pairwise_cons.mp h
    unfold insL
    split
    · rename_i c
      refine List.pairwise_cons.mpr ⟨fun z hz => ?_, insL_srt h2⟩
      rcases List.mem_cons.mp (insL_perm.mem_iff.mp hz) with rfl | hz
      · exact lex_asym c
      · exact h1 z hz
    · rename_i c
      have c : HT.lexLt y x = false := by simpa using c
      refine List.pairwise_cons.mpr ⟨fun z hz => ?_, h⟩
      rcases List.mem_cons.mp hz with rfl | hz
      · exact c
      · exact lex_tr c (h1 z hz)
theorem sortL_srt : ∀ {l : List (List Int)}, SrtL (sortL l)
  | [] => .nil
  | _ :: _ => insL_srt sortL_srt
/-- a sorted list is told by what is in it -/
theorem srtL_eq : ∀ {l m : List (List Int)}, SrtL l → SrtL m → l.Perm m → l = m
  | [], m, _, _, p => by rw [List.nil_perm.mp p]
  | x :: l, [], _, _, p => absurd p.symm (by intro q; have := List.nil_perm.mp q; cases this)
  | x :: l, y :: m, h, g, p => by
    obtain ⟨h1, h2⟩ := List.pairwise_cons.mp h
    obtain ⟨g1, g2⟩ := List.pairwise_cons.mp g
    have e : x = y := by
      have a : HT.lexLt y x = false := by
        rcases List.mem_cons.mp (p.mem_iff.mpr List.mem_cons_self) with e | e
        · rw [e]
          cases q : HT.lexLt x x with
          | false => rfl
          | true => exact absurd (lex_asym q) (by rw [q]; simp)
        · exact h1 y e
      have b : HT.lexLt x y = false := by
        rcases List.mem_cons.mp (p.mem_iff.mp List.mem_cons_self) with e | e
        · rw [e]
          cases q : HT.lexLt y y with
          | false => rfl
          | true => exact absurd (lex_asym q) (by rw [q]; simp)
        · exact g1 x e
      exact lex_anti b a
    subst e
    rw [srtL_eq h2 g2 (List.Perm.cons_inv p)]
theorem sortL_of {l m : List (List Int)} (h : SrtL m) (p : m.Perm l) : m = sortL l := srtL_eq h sortL_srt (p.trans sortL_perm.symm)
theorem sortL_congr {l m : List (List Int)} (p : l.Perm m) : sortL l = sortL m := sortL_of sortL_srt (sortL_perm.trans p)
theorem mem_sortL {x : List Int} {l : List (List Int)} : x ∈ sortL l ↔ x ∈ l := sortL_perm.mem_iff
theorem sortL_len {l : List (List Int)} : (sortL l).length = l.length := sortL_perm.length_eq

/-! ### the objects -/
def kvI (h : Heap) : Value → List Int
  | .ref t => match h.get? t with
    | some o => (match o.data with
      | .seq xs _ => xs.toList.map SrtO.iv
      | _ => [])
    | none => []
  | _ => []
def TupI (h : Heap) (v : Value) (ns : List Int) : Prop := ∃ a o xs n, v = .ref a ∧ h.get? a = some o ∧ o.cls = .type "tuple" ∧ o.data = .seq xs n ∧ IntsAre xs.toList ns
theorem iv_of {vs : List Value} {ns : List Int} (h : IntsAre vs ns) : vs.map SrtO.iv = ns := by
  induction h with
  | nil => rfl
  | cons n t _ ih => rw [List.map_cons, ih]; rfl
theorem TupI.kv {h : Heap} {v : Value} {ns : List Int} (t : TupI h v ns) : kvI h v = ns := by
  obtain ⟨a, o, xs, n, rfl, ho, hc, hd, hi⟩ := t
  unfold kvI
  simp only [ho, hd]
  exact iv_of hi
theorem TupI.keeps {h h' : Heap} {v : Value} {ns : List Int} (t : TupI h v ns) (k : ∀ b o, h.get? b = some o → o.cls = .type "tuple" → h'.get? b = some o) : TupI h' v ns := by
  obtain ⟨a, o, xs, n, e, ho, hc, r⟩ := t
  exact ⟨a, o, xs, n, e, k a o ho hc, hc, r⟩
def lexF (fin : Bool) : List Int → List Int → Bool
  | x :: xs, y :: ys => if x = y then lexF fin xs ys else decide (x < y)
  | _, _ => fin
theorem lexF_lt : ∀ (x y : List Int), lexF (decide (x.length < y.length)) x y = HT.lexLt x y
  | [], [] => rfl
  | [], _ :: _ => by simp [lexF, HT.lexLt]
  | _ :: _, [] => by simp [lexF, HT.lexLt]
  | a :: x, b :: y => by
    simp only [lexF, HT.lexLt, List.length_cons, Nat.add_lt_add_iff_right]
    rw [lexF_lt x y]
section
variable {prog : Program} {w : World} {A : Around} {s : Shared} {Q : Bool → Shared → Prop}
theorem kat_lexs {b fin : Bool} : ∀ {xs ys : List Value} {ns ms : List Int} (i : Nat), IntsAre xs ns → IntsAre ys ms → Q (lexF fin ns ms) s → PySem.W.KatLex prog w A b fin Q (xs.zip ys) i s
  | _, _, _, _, _, .nil, _, h => PySem.W.kat_nil h
  | _, _, _, _, _, .cons _ _ _, .nil, h => PySem.W.kat_nil h
  | _, _, _, _, i, .cons x t hx, .cons y u hy, h => by
    rw [List.zip_cons_cons]
    simp only [lexF] at h
    refine PySem.W.kat_cons (SeqAt.EqAt.int_int x t y u prog w _ _ (PySem.W.kat_go (fun e1 => ?_) (fun e1 => ?_)))
    · rw [if_pos (by simpa using e1)] at h
      exact PySem.W.kat_yes (kat_lexs (i + 1) hx hy h)
    · rw [if_neg (by simpa using e1)] at h
      exact PySem.W.kat_no (TS.oneLt_ints _ h)
theorem tups_cmp {vs : List Value} {k : Value → List Int} (hp : ∀ v ∈ vs, TupI s.heap v (k v)) : SrtO.Cmp prog w A s (tuples' true) (fun p => p.1 ∈ vs) (SrtO.lt2 fun v u => HT.lexLt (k v) (k u)) := by
  intro p q m m'
  obtain ⟨a, o, xs, n, e, ho, hc, hd, hi⟩ := hp _ m
  obtain ⟨a', o', xs', n', e', ho', hc', hd', hi'⟩ := hp _ m'
  show wpAny (model prog w) A (keyLt' (tuples' true) p.1 q.1) (fun r s' => s' = s ∧ r = HT.lexLt (k p.1) (k q.1)) (fun _ _ => False) s
  rw [← lexF_lt]
  generalize k p.1 = x at hi ⊢
  generalize k q.1 = y at hi' ⊢
  rw [e, e']
  have l1 : xs.size = x.length := by rw [← Array.length_toList]; exact hi.length
  have l2 : xs'.size = y.length := by rw [← Array.length_toList]; exact hi'.length
  refine PySem.W.kat_lt ho hd ho' hd' ?_
  rw [l1, l2]
  exact kat_lexs 0 hi hi' ⟨rfl, rfl⟩
theorem tups_firsts {h : Heap} {k : Value → List Int} : ∀ {vs : List Value}, (∀ v ∈ vs, TupI h v (k v) ∧ k v ≠ []) → ∃ fs : List Value, PySem.W.KatTups h vs fs ∧ fs.length = vs.length ∧ ∀ f ∈ fs, ∃ x t, f = Value.int x t
  | [], _ => ⟨[], PySem.W.KatTups.nil, rfl, fun _ m => by cases m⟩
  | v :: vs, hp => by
    obtain ⟨fs, h1, h2, h3⟩ := tups_firsts (vs := vs) fun u m => hp u (List.mem_cons_of_mem _ m)
    obtain ⟨⟨a, o, xs, n, e, ho, hc, hd, hi⟩, ne⟩ := hp v List.mem_cons_self
    generalize k v = ks at hi ne
    cases hi' : xs.toList with
    | nil =>
      rw [hi'] at hi
      cases hi
      exact absurd rfl ne
    | cons f r =>
      rw [hi'] at hi
      cases hi with
      | cons x t hi2 =>
        have hf : xs[0]? = some (.int x t) := by rw [← Array.getElem?_toList, hi']; rfl
        rw [e]
        refine ⟨.int x t :: fs, PySem.W.KatTups.cons ho hc hd hf h1, by simp [h2], fun g m => ?_⟩
        rcases List.mem_cons.mp m with rfl | m
        · exact ⟨x, t, rfl⟩
        · exact h3 g m
theorem tups_sortable {a : Addr} {vs : List Value} {k : Value → List Int} (h0 : 0 < vs.length) (hp : ∀ v ∈ vs, TupI s.heap v (k v) ∧ k v ≠ []) (ha : ∀ o, s.heap.get? a = some o → o.cls ≠ .type "tuple") :
    SrtO.SortableO prog w A s a vs fun v u => HT.lexLt (k v) (k u) := by
  intro h' keep
  have hp' : ∀ v ∈ vs, TupI h' v (k v) ∧ k v ≠ [] := fun v m => ⟨(hp v m).1.keeps fun b o e c => keep b o (fun z => by subst z; exact ha o e c) e, (hp v m).2⟩
  obtain ⟨fs, h1, h2, h3⟩ := tups_firsts hp'
  refine ⟨tuples' true, fun Q E hq => PySem.W.kat_kind (T := .type "int") h1 (by omega) (fun f m => ?_) (by rfl) ?_, tups_cmp fun v m => (hp' v m).1⟩
  · obtain ⟨x, t, rfl⟩ := h3 f m
    exact PySem.W.Looks.now
  · have e : (Value.type "int" != Value.type "tuple") = true := by first | decide +kernel | rfl | decide
    rw [e]
    exact hq
theorem swo_lexL (k : Value → List Int) : SrtO.Swo fun v u => HT.lexLt (k v) (k u) := ⟨fun _ _ h => lex_asym h, fun _ _ _ h g => lex_tr h g⟩
end
/-- a reference to a tuple of these ints -/
def RefI (K : PySem.W.Frag) (H : Hp) (y : V) (ns : List Int) : Prop := ∃ t, y = .ref t ∧ SqT K H t (ns.map V.int)
def RefIs (K : PySem.W.Frag) (H : Hp) : List V → List (List Int) → Prop
  | [], [] => True
  | y :: ys, ns :: nss => RefI K H y ns ∧ RefIs K H ys nss
  | _, _ => False
def rSortedL (K : PySem.W.Frag) : List V → Hp → VK → Prop := fun vs H Q => ∃ a ys nss, vs = [.ref a] ∧ SqL K H a ys ∧ RefIs K H ys nss ∧ (2 ≤ nss.length → ∀ ns ∈ nss, ns ≠ []) ∧
  ∀ zs, RefIs K H zs (sortL nss) → (∀ z ∈ zs, z ∈ ys) → ∀ p, H p = none → Q (.ref p) (upd H p (.lst zs))
section
variable {X : Cx}
theorem refI_tup {pins : List (Addr × Obj)} {s : Shared} {σ : L2.St} {H : Hp} (I : Inv X pins σ H s) {y : V} {ns : List Int} {v : Value} (h : RefI X.K H y ns) (r : RelV y v) : TupI s.heap v ns := by
  obtain ⟨t, rfl, q⟩ := h
  cases r
  obtain ⟨its, rv, ⟨o, ho, hc, n, hd⟩, _⟩ := I.tuple q
  exact ⟨t, o, _, n, rfl, ho, hc, hd, by simpa using intsAre_of rv⟩
theorem refIs_kv {pins : List (Addr × Obj)} {s : Shared} {σ : L2.St} {H : Hp} (I : Inv X pins σ H s) : ∀ {ys : List V} {nss : List (List Int)} {vs : List Value}, RefIs X.K H ys nss → Vals ys vs →
    vs.map (kvI s.heap) = nss ∧ (∀ v ∈ vs, TupI s.heap v (kvI s.heap v)) ∧ ys = vs.map toV
  | [], [], _, _, .nil => ⟨rfl, fun _ m => absurd m (by simp), rfl⟩
  | [], _ :: _, _, h, _ => h.elim
  | _ :: _, [], _, h, _ => h.elim
  | y :: ys, ns :: nss, _, h, .cons r rs => by
    obtain ⟨e1, e2, e3⟩ := refIs_kv I h.2 rs
    have t := refI_tup I h.1 r
    rename_i u us
    have ty : y = toV u := by
      obtain ⟨a, rfl, _⟩ := h.1
      cases r
      rfl
    refine ⟨by rw [List.map_cons, e1, t.kv], fun v m => ?_, by rw [List.map_cons, e3, ty]⟩
    rcases List.mem_cons.mp m with rfl | m
    · rw [t.kv]
      exact t
    · exact e2 v m
theorem refIs_of {pins : List (Addr × Obj)} {s : Shared} {σ : L2.St} {H : Hp} (I : Inv X pins σ H s) {ys : List V} {nss : List (List Int)} {vs : List Value} (h : RefIs X.K H ys nss) (r : Vals ys vs) :
    ∀ {out : List Value}, (∀ v ∈ out, v ∈ vs) → RefIs X.K H (out.map toV) (out.map (kvI s.heap)) ∧ Vals (out.map toV) out := by
  have key : ∀ {ys : List V} {nss : List (List Int)} {vs : List Value}, RefIs X.K H ys nss → Vals ys vs → ∀ v ∈ vs, RefI X.K H (toV v) (kvI s.heap v) ∧ RelV (toV v) v := by
    intro ys
    induction ys with
    | nil =>
      intro nss vs h r v m
      cases r
      cases m
    | cons y ys ih =>
      intro nss vs h r v m
      cases nss with
      | nil => exact h.elim
      | cons ns nss =>
        cases r with
        | cons r rs =>
          rcases List.mem_cons.mp m with rfl | m
          · have t := refI_tup I h.1 r
            obtain ⟨a, rfl, q⟩ := h.1
            cases r
            rw [t.kv]
            exact ⟨⟨a, rfl, q⟩, rfl⟩
          · exact ih h.2 rs v m
  intro out
  induction out with
  | nil => exact fun _ => ⟨trivial, .nil⟩
  | cons v out ih =>
    intro hm
    obtain ⟨h1, h2⟩ := ih fun u m => hm u (List.mem_cons_of_mem _ m)
    obtain ⟨k1, k2⟩ := key h r v (hm v List.mem_cons_self)
    exact ⟨⟨k1, h1⟩, .cons k2 h2⟩
theorem cr_sortedL : CallR X (.builtin "sorted") (rSortedL X.K) := by
  intro pins s σ H vs us Q I r ⟨a, ys, nss, e, hs, hn, h0, q⟩
  subst e
  obtain ⟨its, rv, hl, hz⟩ := I.list hs
  rw [Vals.ref1 r]
  obtain ⟨k1, k2, k3⟩ := refIs_kv I hn rv
  have ll : its.length = nss.length := by rw [← k1, List.length_map]
  refine SrtO.sorted_ord (swo_lexL (kvI s.heap)) hl.isList (by rw [← rv.length]; exact hz) (fun h2 h₁ a' ha kk => ?_) fun out h1 h2 => ?_
  · refine tups_sortable (s := { s with heap := h₁ }) (by omega) (fun v hm => ⟨(k2 v hm).keeps fun b o e _ => (kk b o e).2, ?_⟩) fun o e => ?_
    · exact h0 (by omega) _ (by rw [← k1]; exact List.mem_map_of_mem hm)
    · have e' : some o = some (seqObj "list" its.toArray 0) := e.symm.trans ha
      cases e'
      intro c
      exact absurd (Value.type.inj c) (by decide)
  · have hin : ∀ v ∈ out, v ∈ its := fun v m => h2.perm.mem_iff.mp m
    obtain ⟨g1, g2⟩ := refIs_of I hn rv hin
    have es : out.map (kvI s.heap) = sortL nss := sortL_of (List.pairwise_map.mpr h1) (by rw [← k1]; exact h2.perm.map _)
    rw [es] at g1
    obtain ⟨ep, he'⟩ := PyProof.Rows.sortedAll_at s.heap its out.toArray
    have hlen : (out.map toV).length ≤ sizeLine := by
      rw [List.length_map, h2.perm.length_eq, ← rv.length]
      exact hz
    refine ⟨.ref _, upd H (s.heap.objs.size + 1) (.lst (out.map toV)), I.laid (t' := s.toks) (fun _ _ => PyProof.Rows.sortedAll_old) (Nat.le_succ _) ⟨hlen, out, ep, g2, he'⟩, rfl, q _ g1 (fun z hz => ?_) _ (I.hok.fresh (Nat.le_succ _))⟩
    obtain ⟨v, hv, rfl⟩ := List.mem_map.mp hz
    rw [k3]
    exact List.mem_map_of_mem (hin v hv)
end
end VL

-- part V7
set_option Elab.async false
set_option linter.all false
set_option maxRecDepth 100000
set_option maxHeartbeats 4000000
/-! Layer V, part 7: methods, sorted, dict comprehensions. -/
namespace VL
open PySem PySem.Spec PyProof.Rows L2
section
variable {X : Cx} {P : Pk} {E : XK} {o e a : Expr} {es : List Expr} {to te ta : TV} {t : TVa} {p pos apos cpos : Pos} {name : Str} {id : String}

/-! ### methods of a list -/
abbrev RMV := Option (Addr × List Int) → VH → U → List U → (U → VH → Prop) → Prop
def vM (S : Option (Addr × List Int)) (r : RMV) (to : TV) (t : TVa) : TV := fun Γ vh R Z => to Γ vh (fun x vh1 => (asL S vh1 x).isSome = true ∧ t Γ vh1 (fun us vh2 => r S vh2 x us R) Z) Z
def vM0 (S : Option (Addr × List Int)) (r : RMV) (to : TV) : TV := fun Γ vh R Z => to Γ vh (fun x vh1 => (asL S vh1 x).isSome = true ∧ r S vh1 x [] R) Z
def MetM (X : Cx) (P : Pk) (r' : V → List V → Hp → VK → Prop) (r : RMV) : Prop := ∀ (H : Hp) (vh : VH) (x : U) (us : List U) (b : V) (vs : List V) (R : U → VH → Prop) (Q : VK), RelH (wd X P) H vh → RelU X.K H x b → RelUs X.K H us vs → r P.S vh x us R →
  (∀ u vh', R u vh' → ∀ v H', Stp (wd X P) H vh H' vh' → RelU X.K H' u v → Q v H') → r' b vs H Q
theorem tyL {H : Hp} {vh : VH} {x : U} {v : V} (r : RelH (wd X P) H vh) (h : (asL P.S vh x).isSome = true) (q : RelU X.K H x v) : tyV X.K "list" v H := by
  cases e : asL P.S vh x with
  | none => rw [e] at h; cases h
  | some us =>
    obtain ⟨a, vs, rfl, s, _⟩ := asL.sq (W := wd X P) r e q
    exact .inl ⟨rfl, vs, s⟩
theorem ve_m {r' : V → List V → Hp → VK → Prop} {r : RMV} (slot : Slot "list" name id) (hty : typeOf (.builtin id) = pure (.type "method_descriptor")) (hm : MtR X id r') (m : MetM X P r' r) (ho : VE X P E o to) (ha : VA X P E (e :: es) t)
    (hbase : attributeBase o name X.env (eval o X.env) = eval o X.env := by rfl)
    (hfew : ((backTo cpos (starEach (e :: es) X.env)).all (fun x => !x.1) && (backToKw cpos (keywordEach [] X.env)).all (fun x => x.1.isSome)
      && decide ((e :: es).length + ([] : List Keyword).length + (if ([] : List Keyword).isEmpty then 0 else 1) < 30)) = true := by rfl)
    (hline : (apos.endLine == cpos.line) = true := by rfl) (hs : starEach (e :: es) X.env = (false, eval e X.env) :: starEach es X.env := by rfl) (hplain : (backTo cpos (starEach es X.env)).any (·.1) = false := by rfl) :
    VE X P E (.Call (.Attribute o name apos) (e :: es) [] cpos) (vM P.S r to t) := by
  refine PE.asks (pe_bm PySem.F.plainAttrs_list slot hty hm ho ha hbase hfew hline hs hplain) fun σ H Q ⟨Γ, vh, R, Z, g, rh, q, k, x⟩ => ?_
  refine ⟨Γ, vh, _, Z, g, rh, q, fun u vh1 q1 v H1 s1 r1 => ⟨tyL s1.rel q1.1 r1, ?_⟩, x⟩
  refine ⟨Γ, vh1, _, Z, g.stay s1.tup, s1.rel, q1.2, fun us vh2 q2 vs H2 s2 r2 => ?_, x.step s1⟩
  exact m H2 vh2 u us v vs R Q s2.rel (r1.stay s2.tup) r2 q2 fun z vh3 q3 v3 H3 s3 r3 => k _ _ q3 _ _ ((s1.trans s2).trans s3) r3
theorem ve_m0 {r' : V → List V → Hp → VK → Prop} {r : RMV} (slot : Slot "list" name id) (hty : typeOf (.builtin id) = pure (.type "method_descriptor")) (hm : MtR X id r') (m : MetM X P r' r) (ho : VE X P E o to)
    (hbase : attributeBase o name X.env (eval o X.env) = eval o X.env := by rfl) (hline : (apos.endLine == cpos.line) = true := by rfl) : VE X P E (.Call (.Attribute o name apos) [] [] cpos) (vM0 P.S r to) := by
  refine PE.asks (pe_bm0 PySem.F.plainAttrs_list slot hty hm ho hbase hline) fun σ H Q ⟨Γ, vh, R, Z, g, rh, q, k, x⟩ => ?_
  refine ⟨Γ, vh, _, Z, g, rh, q, fun u vh1 q1 v H1 s1 r1 => ⟨tyL s1.rel q1.1 r1, ?_⟩, x⟩
  exact m H1 vh1 u [] v [] R Q s1.rel r1 RelUs.nil q1.2 fun z vh3 q3 v3 H3 s3 r3 => k _ _ q3 _ _ (s1.trans s3) r3
/-- a list of one's own is rewritten -/
theorem putL {H : Hp} {vh : VH} {a : Addr} {us us' : List U} {vs vs' : List V} (r : RelH (wd X P) H vh) (hv : vh a = some (.lst us)) (ev : H a = some (.lst vs)) (q : RelUs X.K H us' vs') :
    Stp (wd X P) H vh (upd H a (.lst vs')) (vput vh a (.lst us')) := by
  have st : TupStay H (upd H a (.lst vs')) := (Stp.put (W := wd X P) (c' := .any (.lst vs')) r hv ev True.intro ⟨upd_same, fun _ z => by cases z⟩).tup
  exact Stp.put r hv ev True.intro ⟨_, upd_same, q.stay st⟩
def appendV : RMV := fun _ vh x us R => match ownL vh x, us with
  | some (a, xs), [u] => xs.length < sizeLine ∧ R .non (vput vh a (.lst (xs ++ [u])))
  | _, _ => False
theorem met_append : MetM X P rAppend appendV := by
  intro H vh x us v vs R Q r rx rs h k
  unfold appendV at h
  split at h
  · rename_i _ _ a xs u eo
    obtain ⟨rfl, hv, ys, ev, rv⟩ := ownL.at (W := wd X P) r eo rx
    obtain ⟨y, rfl, ry⟩ := rs.one
    exact ⟨a, ys, y, rfl, rfl, ev, by rw [rv.len]; exact h.1, k _ _ h.2 _ _ (putL r hv ev (rv.app (RelUs.cons ry RelUs.nil))) rfl⟩
  · exact h.elim
def extendV : RMV := fun _ vh x us R => match ownL vh x, us with
  | some (a, xs), [u] => (match ownL vh u with
    | some (_, ys) => xs.length + ys.length ≤ sizeLine ∧ R .non (vput vh a (.lst (xs ++ ys)))
    | none => False)
  | _, _ => False
theorem met_extend : MetM X P rExtend extendV := by
  intro H vh x us v vs R Q r rx rs h k
  unfold extendV at h
  split at h
  · rename_i _ _ a xs u eo
    obtain ⟨rfl, hv, ys, ev, rv⟩ := ownL.at (W := wd X P) r eo rx
    obtain ⟨y, rfl, ry⟩ := rs.one
    split at h
    · rename_i b zs eb
      obtain ⟨rfl, hb, ws, ew, rw'⟩ := ownL.at (W := wd X P) r eb ry
      exact ⟨a, b, ys, ws, rfl, rfl, ev, ew, by rw [rv.len, rw'.len]; exact h.1, k _ _ h.2 _ _ (putL r hv ev (rv.app rw')) rfl⟩
    · exact h.elim
  · exact h.elim
def popV : RMV := fun _ vh x us R => match ownL vh x, us with
  | some (a, xs), [] => (match xs[xs.length - 1]? with
    | some y => R y (vput vh a (.lst xs.dropLast))
    | none => False)
  | _, _ => False
theorem RelUs.dl {K : PySem.W.Frag} {H : Hp} {us : List U} {vs : List V} (h : RelUs K H us vs) : RelUs K H us.dropLast vs.dropLast := by
  rw [List.dropLast_eq_take, List.dropLast_eq_take, h.len]
  exact h.tk _
theorem met_pop : MetM X P rPop popV := by
  intro H vh x us v vs R Q r rx rs h k
  unfold popV at h
  split at h
  · rename_i _ _ a xs eo
    obtain ⟨rfl, hv, ys, ev, rv⟩ := ownL.at (W := wd X P) r eo rx
    split at h
    · rename_i y ey
      obtain ⟨z, ez, rz⟩ := rv.get ey
      have s := putL r hv ev rv.dl
      exact ⟨a, ys, z, rfl, rs, ev, by rw [rv.len]; exact ez, k _ _ h _ _ s (rz.stay s.tup)⟩
    · exact h.elim
  · exact h.elim
def popAtV : RMV := fun _ vh x us R => match ownL vh x, us with
  | some (a, xs), [.int i] => B62 i ∧ (match ixN xs.length i with
    | some k => (match xs[k]? with
      | some y => R y (vput vh a (.lst (xs.eraseIdx k)))
      | none => False)
    | none => False)
  | _, _ => False
theorem met_popAt : MetM X P rPopAt popAtV := by
  intro H vh x us v vs R Q r rx rs h k
  unfold popAtV at h
  split at h
  · rename_i _ _ a xs i eo
    obtain ⟨rfl, hv, ys, ev, rv⟩ := ownL.at (W := wd X P) r eo rx
    obtain ⟨y, rfl, ry⟩ := rs.one
    obtain ⟨⟨b1, b2⟩, h⟩ := h
    split at h
    · rename_i j ej
      split at h
      · rename_i w ew
        obtain ⟨z, ez, rz⟩ := rv.get ew
        have s := putL r hv ev (rv.er j)
        exact ⟨a, ys, i, j, z, rfl, by rw [show y = _ from ry], ev, by omega, by omega, by rw [rv.len]; exact (ixN_seq ej).1, ez, k _ _ h _ _ s (rz.stay s.tup)⟩
      · exact h.elim
    · exact h.elim
  · exact h.elim
theorem ve_append (ho : VE X P E o to) (ha : VA X P E [e] t)
    (hbase : attributeBase o "append" X.env (eval o X.env) = eval o X.env := by rfl)
    (hfew : ((backTo cpos (starEach [e] X.env)).all (fun x => !x.1) && (backToKw cpos (keywordEach [] X.env)).all (fun x => x.1.isSome)
      && decide ([e].length + ([] : List Keyword).length + (if ([] : List Keyword).isEmpty then 0 else 1) < 30)) = true := by rfl)
    (hline : (apos.endLine == cpos.line) = true := by rfl) (hs : starEach [e] X.env = (false, eval e X.env) :: starEach [] X.env := by rfl) (hplain : (backTo cpos (starEach [] X.env)).any (·.1) = false := by rfl) :
    VE X P E (.Call (.Attribute o "append" apos) [e] [] cpos) (vM P.S appendV to t) := ve_m PySem.F.slot_list_append PySem.F.type_list_append mt_append met_append ho ha hbase hfew hline hs hplain
theorem ve_extend (ho : VE X P E o to) (ha : VA X P E [e] t)
    (hbase : attributeBase o "extend" X.env (eval o X.env) = eval o X.env := by rfl)
    (hfew : ((backTo cpos (starEach [e] X.env)).all (fun x => !x.1) && (backToKw cpos (keywordEach [] X.env)).all (fun x => x.1.isSome)
      && decide ([e].length + ([] : List Keyword).length + (if ([] : List Keyword).isEmpty then 0 else 1) < 30)) = true := by rfl)
    (hline : (apos.endLine == cpos.line) = true := by rfl) (hs : starEach [e] X.env = (false, eval e X.env) :: starEach [] X.env := by rfl) (hplain : (backTo cpos (starEach [] X.env)).any (·.1) = false := by rfl) :
    VE X P E (.Call (.Attribute o "extend" apos) [e] [] cpos) (vM P.S extendV to t) := ve_m PySem.F.slot_list_extend PySem.F.type_list_extend mt_extend met_extend ho ha hbase hfew hline hs hplain
theorem ve_popAt (ho : VE X P E o to) (ha : VA X P E [e] t)
    (hbase : attributeBase o "pop" X.env (eval o X.env) = eval o X.env := by rfl)
    (hfew : ((backTo cpos (starEach [e] X.env)).all (fun x => !x.1) && (backToKw cpos (keywordEach [] X.env)).all (fun x => x.1.isSome)
      && decide ([e].length + ([] : List Keyword).length + (if ([] : List Keyword).isEmpty then 0 else 1) < 30)) = true := by rfl)
    (hline : (apos.endLine == cpos.line) = true := by rfl) (hs : starEach [e] X.env = (false, eval e X.env) :: starEach [] X.env := by rfl) (hplain : (backTo cpos (starEach [] X.env)).any (·.1) = false := by rfl) :
    VE X P E (.Call (.Attribute o "pop" apos) [e] [] cpos) (vM P.S popAtV to t) := ve_m PySem.F.slot_list_pop PySem.F.type_list_pop mt_popAt met_popAt ho ha hbase hfew hline hs hplain
theorem ve_pop (ho : VE X P E o to)
    (hbase : attributeBase o "pop" X.env (eval o X.env) = eval o X.env := by rfl) (hline : (apos.endLine == cpos.line) = true := by rfl) : VE X P E (.Call (.Attribute o "pop" apos) [] [] cpos) (vM0 P.S popV to) :=
  ve_m0 PySem.F.slot_list_pop PySem.F.type_list_pop mt_pop met_pop ho hbase hline

/-! ### index, of a list or a tuple -/
def rIndexTD (K : PySem.W.Frag) : V → List V → Hp → VK → Prop := fun x xs H Q => ∃ (a : Addr) (y : V) (d : PyData) (ds : List PyData) (j : Nat) (z : PyData), x = V.ref a ∧ xs = [y] ∧ Dp K H (V.ref a) (.tuple ds) ∧ Dp K H y d ∧
  SeqAt.shaped (.tuple ds) = true ∧ SeqAt.shaped d = true ∧ ds[j]? = some z ∧ PyData.eqv z d = true ∧ (∀ (m : Nat) (z' : PyData), m < j → ds[m]? = some z' → PyData.eqv z' d = false) ∧ Q (.int (j : Nat)) H
theorem mt_indexTD (hu : X.A.units + 65 < cLine) : MtR X "tuple.index" (rIndexTD X.K) := by
  intro pins s σ H x xs v us Q I rx rxs ⟨a, y, d, ds, j, z, e1, e2, hl, hy, sl, sd, hz, hzj, hno, q⟩
  subst e1 e2
  cases rx
  obtain ⟨uy, rfl, ry⟩ := vals1 rxs
  obtain ⟨bs, r1⟩ := Dp.reads I d y uy hy ry
  cases hl with
  | tup hs ha =>
    obtain ⟨its, rv, ⟨⟨cls, dd, data, sls⟩, ho, hc, n, hdt⟩, hlen⟩ := I.tuple hs
    simp only at hc hdt
    subst hc hdt
    obtain ⟨as, h4⟩ := Dp.readsAll I ds _ its ha rv
    have hn : its.length = ds.length := SeqAt.ReadsAll.length ds its as h4
    have hmap : its.map (SeqAt.readOf s.heap) = ds := SeqAt.readsAll_map ds its as (SeqAt.canLay_of_shaped sl) h4
    obtain ⟨hjd, _⟩ := List.getElem?_eq_some_iff.mp hz
    have hj : j < its.toArray.size := by simp only [List.size_toArray]; omega
    have at_ : ∀ (m : Nat) (hm : m < its.toArray.size) (z' : PyData), ds[m]? = some z' → SeqAt.readOf s.heap its.toArray[m] = z' := fun m hm z' hz' => by
      have hml : m < its.length := by simpa using hm
      rw [← hmap, List.getElem?_map, List.getElem?_eq_getElem hml] at hz'
      simpa using Option.some.inj hz'
    refine call_meets PySem.F.slot_tuple_index ⟨_, ho, rfl⟩ PySem.F.entry_tuple_index (PySem.F.args_tuple_index_2 _ _) (TI.tuple_indexAt a its.toArray n dd sls uy (fun u => PyData.eqv (SeqAt.readOf s.heap u) d) j hj ?_ fun m hm hmj => ?_)
      ⟨ho, SeqAt.items_eqAt (vs := its.toArray) (show ReadsAll s.heap its.toArray.toList ds as from h4) r1 (SeqAt.canLay_of_shaped sl) (SeqAt.canLay_of_shaped sd) (roomT sl hu), .int (j : Nat), H, I.tok _, ⟨_, rfl⟩, q⟩
    · show PyData.eqv (SeqAt.readOf s.heap its.toArray[j]) d = true
      rw [at_ j hj z hz]
      exact hzj
    · have hmd : m < ds.length := by
        have : m < its.length := by simpa using hm
        omega
      have hz' : ds[m]? = some ds[m] := List.getElem?_eq_getElem hmd
      show PyData.eqv (SeqAt.readOf s.heap its.toArray[m]) d = false
      rw [at_ m hm _ hz']
      exact hno m _ hmj hz'
theorem tyF_is {pins : List (Addr × Obj)} {σ : L2.St} {H : Hp} {s : Shared} {a : Addr} {xs : List V} (I : Inv X pins σ H s) (h : SqF X.K H a xs) : s.TypeIs (.ref a) "tuple" ∧ ∀ b, Value.ref a = .ref b → ∃ ob, s.heap.get? b = some ob ∧ ob.dict = none := by
  have : ∃ o, s.heap.get? a = some o ∧ Bare o := by
    rcases h with ⟨o, e, b⟩ | ⟨o, its, n, k, b, _⟩
    · exact ⟨o, (I.hok a _ e).1, b⟩
    · exact ⟨o, I.kIn a o k, b⟩
  obtain ⟨o, e, b⟩ := this
  exact ⟨⟨o, e, b.1⟩, fun c z => by cases z; exact ⟨o, e, b.2⟩⟩
/-- the receiver is a list, or a bare tuple -/
def tIx (K : PySem.W.Frag) (rl rt : V → List V → Hp → VK → Prop) (to : TE) (t : TA) : TE := fun σ H Q => to σ H fun x H1 => ∃ a, x = .ref a ∧ (((∃ xs, SqL K H1 a xs) ∧ t σ H1 fun xs H2 => rl x xs H2 Q) ∨ ((∃ xs, SqF K H1 a xs) ∧ t σ H1 fun xs H2 => rt x xs H2 Q))
theorem pe_bmLT {idl idt : String} {rl rt : V → List V → Hp → VK → Prop} {to : TE} {t : TA} (sl : Slot "list" name idl) (st : Slot "tuple" name idt) (tyl : typeOf (.builtin idl) = pure (.type "method_descriptor")) (tyt : typeOf (.builtin idt) = pure (.type "method_descriptor"))
    (ml : MtR X idl rl) (mt : MtR X idt rt) (ho : PE X o to) (ha : PA X (e :: es) t)
    (hbase : attributeBase o name X.env (eval o X.env) = eval o X.env := by rfl)
    (hfew : ((backTo cpos (starEach (e :: es) X.env)).all (fun x => !x.1) && (backToKw cpos (keywordEach [] X.env)).all (fun x => x.1.isSome)
      && decide ((e :: es).length + ([] : List Keyword).length + (if ([] : List Keyword).isEmpty then 0 else 1) < 30)) = true := by rfl)
    (hline : (apos.endLine == cpos.line) = true := by rfl) (hs : starEach (e :: es) X.env = (false, eval e X.env) :: starEach es X.env := by rfl) (hplain : (backTo cpos (starEach es X.env)).any (·.1) = false := by rfl) :
    PE X (.Call (.Attribute o name apos) (e :: es) [] cpos) (tIx X.K rl rt to t) := by
  refine ⟨fun pins s σ H Q I h => wpAny_Call_method_late hbase hfew hline rfl (thn (ho.run pins s σ H _ I h) fun v s1 ⟨x, H1, I1, r1, a, ex, c⟩ => ?_)⟩
  subst ex
  cases r1
  have arg : ∀ {id : String} {r : V → List V → Hp → VK → Prop}, MtR X id r → t σ H1 (fun xs H2 => r (.ref a) xs H2 Q) → wpAny (model X.prog X.w) X.A (callWith cpos (.builtin id) [.ref a] (backTo cpos (starEach (e :: es) X.env)) []) (EP X pins σ Q) X.xe s1 := fun {id r} m q1 => by
    have hA := ha.run cpos pins s1 σ H1 _ I1 q1
    rw [hs] at hA ⊢
    exact Calls.callWith_builtin (by show (false || (backTo cpos (starEach es X.env)).any (·.1)) = false; rw [hplain] <;> rfl) (Calls.evalArgs_plain (thn hA fun us s2 ⟨vs, H2, I2, r2, q2⟩ => m pins s2 σ H2 (.ref a) vs (.ref a) us Q I2 rfl r2 q2))
  rcases c with ⟨⟨xs, sq⟩, q⟩ | ⟨⟨xs, sq⟩, q⟩
  · obtain ⟨h1, h2⟩ := tyV_is (T := "list") I1 (show RelV (.ref a) (.ref a) from rfl) (.inl ⟨rfl, xs, sq⟩)
    exact ⟨"list", idl, PySem.F.plainAttrs_list, sl, tyl, h1, h2, arg ml q⟩
  · obtain ⟨h1, h2⟩ := tyF_is I1 sq
    exact ⟨"tuple", idt, PySem.F.plainAttrs_tuple, st, tyt, h1, h2, arg mt q⟩
/-- the place of an equal one -/
def idxU (x : U) (us : List U) : Option Nat := us.findIdx? fun z => eqU z x
def isSqF (S : Option (Addr × List Int)) (vh : VH) : U → Bool
  | .tup _ => true
  | .sta _ => false
  | x => (asL S vh x).isSome
def vIndex (S : Option (Addr × List Int)) (to : TV) (t : TVa) : TV := fun Γ vh R Z => to Γ vh (fun x vh1 => isSqF S vh1 x = true ∧ t Γ vh1 (fun us vh2 => match us with
  | [u] => (match asSq S vh2 x with
    | some xs => okD 9 u = true ∧ okDs 9 xs = true ∧ (match idxU u xs with
      | some j => R (.int (j : Nat)) vh2
      | none => False)
    | none => False)
  | _ => False) Z) Z
theorem idx_pd {x : U} {us : List U} {j : Nat} (hx : okD 9 x = true) (hs : okDs 9 us = true) (h : idxU x us = some j) :
    ∃ z, (pdUs us)[j]? = some z ∧ PyData.eqv z (pdU x) = true ∧ ∀ (m : Nat) (z' : PyData), m < j → (pdUs us)[m]? = some z' → PyData.eqv z' (pdU x) = false := by
  have key : ∀ (us : List U) (m : Nat), (pdUs us)[m]? = (us[m]?).map pdU := by
    intro us
    induction us with
    | nil => intro m; simp [pdUs]
    | cons u us ih =>
      intro m
      cases m with
      | zero => simp [pdUs]
      | succ m => simp [pdUs, ih m]
  have ok : ∀ (us : List U), okDs 9 us = true → ∀ u ∈ us, okD 9 u = true := by
    intro us
    induction us with
    | nil => intro _ u m; cases m
    | cons w us ih =>
      intro h u m
      have h : okD 9 w = true ∧ okDs 9 us = true := by simpa [okDs] using h
      rcases List.mem_cons.mp m with rfl | m
      · exact h.1
      · exact ih h.2 u m
  obtain ⟨hj, h1, h2⟩ := List.findIdx?_eq_some_iff_getElem.mp h
  refine ⟨pdU us[j], by rw [key, List.getElem?_eq_getElem hj]; rfl, ?_, fun m z' hm hz => ?_⟩
  · rw [eqU.pd (ok us hs _ (List.getElem_mem hj)) hx]
    exact h1
  · rw [key, List.getElem?_eq_getElem (by omega)] at hz
    cases hz
    rw [eqU.pd (ok us hs _ (List.getElem_mem (by omega))) hx]
    simpa using h2 m hm
theorem ve_index (hu : X.A.units + 65 < cLine) (ho : VE X P E o to) (ha : VA X P E [e] t)
    (hbase : attributeBase o "index" X.env (eval o X.env) = eval o X.env := by rfl)
    (hfew : ((backTo cpos (starEach [e] X.env)).all (fun x => !x.1) && (backToKw cpos (keywordEach [] X.env)).all (fun x => x.1.isSome)
      && decide ([e].length + ([] : List Keyword).length + (if ([] : List Keyword).isEmpty then 0 else 1) < 30)) = true := by rfl)
    (hline : (apos.endLine == cpos.line) = true := by rfl) (hs : starEach [e] X.env = (false, eval e X.env) :: starEach [] X.env := by rfl) (hplain : (backTo cpos (starEach [] X.env)).any (·.1) = false := by rfl) :
    VE X P E (.Call (.Attribute o "index" apos) [e] [] cpos) (vIndex P.S to t) := by
  refine PE.asks (pe_bmLT PySem.F.slot_list_index PySem.F.slot_tuple_index PySem.F.type_list_index PySem.F.type_tuple_index (mt_indexD hu) (mt_indexTD hu) ho ha hbase hfew hline hs hplain) fun σ H Q ⟨Γ, vh, R, Z, g, rh, q, k, x⟩ => ?_
  refine ⟨Γ, vh, _, Z, g, rh, q, fun u vh1 q1 v H1 s1 r1 => ?_, x⟩
  obtain ⟨i1, q1⟩ := q1
  have fin : ∀ us vh2, (match us with
    | [w] => (match asSq P.S vh2 u with
      | some xs => okD 9 w = true ∧ okDs 9 xs = true ∧ (match idxU w xs with
        | some j => R (.int (j : Nat)) vh2
        | none => False)
      | none => False)
    | _ => False) → ∀ vs H2, Stp (wd X P) H1 vh1 H2 vh2 → RelUs X.K H2 us vs → (∀ a, v = .ref a → (u = .ref a → rIndexD X.K v vs H2 Q) ∧ ((∃ xs, u = .tup xs) → rIndexTD X.K v vs H2 Q)) := by
    intro us vh2 q2 vs H2 s2 r2 a ea
    split at q2
    · rename_i w
      obtain ⟨y, rfl, ry⟩ := r2.one
      split at q2
      · rename_i xs ex
        obtain ⟨ok1, ok2, q2⟩ := q2
        split at q2
        · rename_i j ej
          obtain ⟨z, z1, z2, z3⟩ := idx_pd ok1 ok2 ej
          have p1 := okD.pd ok1
          have p2 := okDs.pd ok2
          have sh1 : SeqAt.shaped (.list (pdUs xs)) = true := shaped_of (n := 10) (by simpa [PyData.canLay0] using p2.1) (by simp only [PyData.depth]; omega)
          have sh2 : SeqAt.shaped (.tuple (pdUs xs)) = true := shaped_of (n := 10) (by simpa [PyData.canLay0] using p2.1) (by simp only [PyData.depth]; omega)
          have rr := r1.stay s2.tup
          have qq := k _ _ q2 (.int (j : Nat)) H2 (s1.trans s2) rfl
          refine ⟨fun eu => ?_, fun ⟨ws, eu⟩ => ?_⟩
          · subst eu
            obtain ⟨a', ys, e', s', q'⟩ := asL.sq (W := wd X P) s2.rel (show asL (wd X P).S vh2 (.ref a) = some xs from ex) rr
            rw [ea] at e'
            cases e'
            exact ⟨a, y, _, _, j, z, ea, rfl, .lst s' (RelUs.dp ok2 q'), RelU.dp ok1 ry, sh1, shaped_of p1.1 p1.2, z1, z2, z3, qq⟩
          · subst eu
            obtain rfl : ws = xs := Option.some.inj ex
            obtain ⟨a', ys, e', s', q'⟩ := rr
            rw [ea] at e'
            cases e'
            exact ⟨a, y, _, _, j, z, ea, rfl, .tup s'.t (RelUs.dp ok2 q'), RelU.dp ok1 ry, sh2, shaped_of p1.1 p1.2, z1, z2, z3, qq⟩
        · exact q2.elim
      · exact q2.elim
    · exact q2.elim
  cases u with
  | tup ws =>
    obtain ⟨a, ys, rfl, s', q'⟩ := r1
    exact ⟨a, rfl, .inr ⟨⟨ys, s'⟩, Γ, vh1, _, Z, g.stay s1.tup, s1.rel, q1, fun us vh2 q2 vs H2 s2 r2 => (fin us vh2 q2 vs H2 s2 r2 a rfl).2 ⟨ws, rfl⟩, x.step s1⟩⟩
  | ref a =>
    cases e1 : asL P.S vh1 (.ref a) with
    | none =>
      simp only [isSqF, e1] at i1
      cases i1
    | some xs =>
      obtain ⟨a', ys, e', s', q'⟩ := asL.sq (W := wd X P) s1.rel e1 r1
      have ea : v = .ref a := r1
      rw [ea] at e'
      cases e'
      refine ⟨a, ea, .inl ⟨⟨ys, s'⟩, Γ, vh1, _, Z, g.stay s1.tup, s1.rel, q1, fun us vh2 q2 vs H2 s2 r2 => (fin us vh2 q2 vs H2 s2 r2 a ea).1 rfl, x.step s1⟩⟩
  | non => simp [isSqF, asL] at i1
  | bl _ => simp [isSqF, asL] at i1
  | int _ => simp [isSqF, asL] at i1
  | str _ => simp [isSqF, asL] at i1
  | tupw _ => simp [isSqF, asL] at i1
  | sta _ => simp [isSqF] at i1

/-! ### sorted -/
def tupI (ns : List Int) : U := .tup (ns.map U.int)
def tupIs : List U → Option (List (List Int))
  | [] => some []
  | .tup us :: r => (match intsOf us, tupIs r with
    | some ns, some nss => some (ns :: nss)
    | _, _ => none)
  | _ :: _ => none
theorem tupIs_map : ∀ nss : List (List Int), tupIs (nss.map tupI) = some nss
  | [] => rfl
  | ns :: nss => by simp [tupIs, tupI, intsOf_map, tupIs_map nss]
theorem tupIs_eq : ∀ {us : List U} {nss : List (List Int)}, tupIs us = some nss → us = nss.map tupI
  | [], _, h => by cases h; rfl
  | u :: r, nss, h => by
    cases u <;> first | (simp [tupIs] at h; done) | skip
    simp only [tupIs] at h
    split at h
    · rename_i ns ms h1 h2
      cases h
      rw [tupIs_eq h2, intsOf_eq h1]
      rfl
    · cases h
theorem RelUs.refIs {K : PySem.W.Frag} {H : Hp} : ∀ {nss : List (List Int)} {vs : List V}, RelUs K H (nss.map tupI) vs → RefIs K H vs nss
  | [], _, h => by cases (show _ = [] from h); trivial
  | ns :: nss, _, h => by
    obtain ⟨v, r, rfl, ⟨a, ws, rfl, s, q⟩, h2⟩ := h
    rw [q.ints_of] at s
    exact ⟨⟨a, rfl, s.t⟩, RelUs.refIs h2⟩
/-- tuples of these ints that are known to be bare -/
def BareIn (K : PySem.W.Frag) (H : Hp) (vs : List V) : Prop := ∀ v ∈ vs, ∃ a xs, v = .ref a ∧ SqF K H a xs
theorem RelUs.bare {K : PySem.W.Frag} {H : Hp} : ∀ {nss : List (List Int)} {vs : List V}, RelUs K H (nss.map tupI) vs → BareIn K H vs
  | [], _, h => by cases (show _ = [] from h); intro v m; cases m
  | ns :: nss, _, h => by
    obtain ⟨v, r, rfl, ⟨a, ws, rfl, s, q⟩, h2⟩ := h
    intro v m
    rcases List.mem_cons.mp m with rfl | m
    · exact ⟨a, ws, rfl, s⟩
    · exact RelUs.bare h2 v m
def sortV : RCV := fun S vh us R => match us with
  | [u] => (match asL S vh u with
    | some xs => (match tupIs xs with
      | some nss => (2 ≤ nss.length → ∀ ns ∈ nss, ns ≠ []) ∧ newL vh ((sortL nss).map tupI) R
      | none => False)
    | none => False)
  | _ => False
/-- one address, one tuple: what the heap's reader tells -/
def OneTup (K : PySem.W.Frag) (H : Hp) : Prop := ∀ a xs ys, SqT K H a xs → SqT K H a ys → xs = ys
def rSortedL' (K : PySem.W.Frag) : List V → Hp → VK → Prop := fun vs H Q => OneTup K H → rSortedL K vs H Q
theorem cr_sortedL' : CallR X (.builtin "sorted") (rSortedL' X.K) := fun pins s σ H xs us Q I r h => cr_sortedL pins s σ H xs us Q I r (h fun _ _ _ h1 h2 => I.tuple_inj h1 h2)
theorem refIs_back {K : PySem.W.Frag} {H : Hp} (one : OneTup K H) : ∀ {zs : List V} {nss : List (List Int)}, RefIs K H zs nss → BareIn K H zs → RelUs K H (nss.map tupI) zs
  | [], [], _, _ => RelUs.nil
  | [], _ :: _, h, _ => h.elim
  | _ :: _, [], h, _ => h.elim
  | z :: zs, ns :: nss, h, b => by
    obtain ⟨⟨t, rfl, q⟩, h2⟩ := h
    obtain ⟨a, xs, e, s⟩ := b _ List.mem_cons_self
    cases e
    have := one t xs _ s.t q
    subst this
    exact RelUs.cons ⟨t, _, rfl, s, RelUs.ints⟩ (refIs_back one h2 fun v m => b v (List.mem_cons_of_mem _ m))
theorem met_sorted : MetC X P (rSortedL' X.K) sortV := by
  intro H vh us vs R Q r rs h k one
  unfold sortV at h
  split at h
  · obtain ⟨v, rfl, ru⟩ := rs.one
    split at h
    · rename_i xs ex
      split at h
      · rename_i nss en
        obtain ⟨a, ys, rfl, s, q⟩ := asL.sq (W := wd X P) r ex ru
        rw [tupIs_eq en] at q
        exact ⟨a, ys, nss, rfl, s, q.refIs, h.1, fun zs hz hin p n => newL.met (W := wd X P) r h.2 (refIs_back one hz fun v m => q.bare v (hin v m)) k n⟩
      · exact h.elim
    · exact h.elim
  · exact h.elim
theorem ve_sorted (hg : Gl X "sorted") (hm : X.mg "sorted" = none) (ha : VA X P E [e] t) (he : starEach [e] X.env = (false, eval e X.env) :: starEach [] X.env := by rfl) (hpl : (backTo pos (starEach [] X.env)).any (·.1) = false := by rfl) :
    VE X P E (.Call (.Name "sorted" p) [e] [] pos) (vCB P.S sortV t) := ve_callB cr_sortedL' met_sorted hg hm (by decide +kernel) ha (by decide) (by decide) he hpl

/-! ### {} and dict comprehensions -/
def vDnew : TV := fun _ vh R _ => ∀ p, vh p = none → R (.ref p) (vput vh p (.dK []))
theorem ve_dnew : VE X P E (.Dict [] [] pos) vDnew := PE.asks pe_dnewK fun σ H Q ⟨Γ, vh, R, Z, g, r, q, k, x⟩ => fun p n => k _ _ (q p (r.fresh n)) _ _ (Stp.new r n ⟨[], upd_same, rfl⟩) rfl
def keyU : U → Option Key
  | .int i => some (.inl i)
  | .str x => some (.inr x)
  | _ => none
def putU (kvs : List (Key × U)) (k : Key) (v : U) : List (Key × U) :=
  if (kvs.any fun kv => decide (kv.1 = k)) = true then kvs.map (fun kv => if kv.1 = k then (kv.1, v) else kv) else kvs ++ [(k, v)]
theorem RelKV.any {K : PySem.W.Frag} {H : Hp} {k : Key} : ∀ {kvs : List (Key × U)} {ws : List (Key × V)}, RelKV K H kvs ws → (ws.any fun kv => decide (kv.1 = k)) = kvs.any fun kv => decide (kv.1 = k)
  | [], _, h => by cases (show _ = [] from h); rfl
  | _ :: _, _, h => by
    obtain ⟨v, r, rfl, _, h2⟩ := h
    simp [RelKV.any h2]
theorem RelKV.rpl {K : PySem.W.Frag} {H : Hp} {k : Key} {u : U} {v : V} (ru : RelU K H u v) : ∀ {kvs : List (Key × U)} {ws : List (Key × V)}, RelKV K H kvs ws → RelKV K H (kvs.map fun kv => if kv.1 = k then (kv.1, u) else kv) (ws.map fun kv => if kv.1 = k then (kv.1, v) else kv)
  | [], _, h => by cases (show _ = [] from h); exact rfl
  | p :: _, _, h => by
    obtain ⟨w, r, rfl, h1, h2⟩ := h
    simp only [List.map_cons]
    by_cases e : p.1 = k
    · simp only [e, if_true]
      exact ⟨v, _, rfl, ru, RelKV.rpl ru h2⟩
    · simp only [e, if_false]
      exact ⟨w, _, rfl, h1, RelKV.rpl ru h2⟩
theorem RelKV.app {K : PySem.W.Frag} {H : Hp} {k : Key} {u : U} {v : V} (ru : RelU K H u v) : ∀ {kvs : List (Key × U)} {ws : List (Key × V)}, RelKV K H kvs ws → RelKV K H (kvs ++ [(k, u)]) (ws ++ [(k, v)])
  | [], _, h => by cases (show _ = [] from h); exact ⟨v, [], rfl, ru, rfl⟩
  | p :: _, _, h => by
    obtain ⟨w, r, rfl, h1, h2⟩ := h
    exact ⟨w, _, rfl, h1, RelKV.app ru h2⟩
theorem RelKV.put {K : PySem.W.Frag} {H : Hp} {k : Key} {u : U} {v : V} {kvs : List (Key × U)} {ws : List (Key × V)} (ru : RelU K H u v) (h : RelKV K H kvs ws) : RelKV K H (putU kvs k u) (putK ws k v) := by
  unfold putU putK
  rw [RelKV.any h]
  split
  · exact RelKV.rpl ru h
  · exact RelKV.app ru h
theorem putU_len (kvs : List (Key × U)) (k : Key) (v : U) : (putU kvs k v).length ≤ kvs.length + 1 := by
  unfold putU
  split
  · rw [List.length_map]; omega
  · simp
/-- {k: v for target in iter}: W by the turn, the pairs so far -/
def vDc (ti : TIV) (g : TGV) (tt : TVb) (tk tv : TV) (ws : List Nat) : TV := fun Γ vh R Z => ti Γ vh (fun I vh1 => ∃ W : Nat → List (Key × U) → VH → Prop, W 0 [] vh1 ∧ ∀ i acc vh', W i acc vh' → acc.length ≤ i → I.ok vh' ∧ (i = I.items.length → ∀ p, vh' p = none → R (.ref p) (vput vh' p (.dK acc))) ∧
  ∀ u, I.items[i]? = some u → i < sizeLine ∧ g u (wipeV Γ ws) vh' (fun Γ2 vh2 => tt Γ2 vh2 (fun b vh3 => if b = true then tk Γ2 vh3 (fun y vh4 => match keyU y with
    | some k => tv Γ2 vh4 (fun z vh5 => W (i + 1) (putU acc k z) vh5) Z0
    | none => False) Z0 else W (i + 1) acc vh3) Z0) Z0) Z
theorem Stp.sideD {W : Wd} {H1 H : Hp} {vh1 vh : VH} {D : Addr} {vs ws : List (Key × V)} (s : Stp W H1 vh1 H vh) (n : H1 D = none) (hD : H D = some (.dK vs)) (v : vh D = none) : Stp W H1 vh1 (upd H D (.dK ws)) vh := by
  have k : ∀ b u, b ≠ D → H b = some u → upd H D (.dK ws) b = some u := fun b u e h => by rw [upd_ne e]; exact h
  have ne : ∀ {b u}, H b = some u → (∀ x, u ≠ .dK x) → b ≠ D := fun {b u} e h z => by subst z; rw [hD] at e; cases e; exact h _ rfl
  have st : TupStay H (upd H D (.dK ws)) := ⟨fun b xs e => k b _ (ne e fun _ z => by cases z) e, fun b o u e => k b _ (ne e fun _ z => by cases z) e⟩
  refine ⟨s.tup.trans st, fun b o e nn w => k b o (fun z => by subst z; rw [n] at e; cases e) (s.fr b o e nn w), fun b e => ?_, fun b w e => s.dom b w e, ⟨fun b c e => ?_, Tabs.stays s.rel.tab (fun b ps e => k b _ (ne e fun _ z => by cases z) e) fun b φ e => k b _ (ne e fun _ z => by cases z) e, s.rel.sta⟩⟩
  · rw [upd_ne (fun z => e (by rw [z]; exact n))]
    exact s.liv b e
  · have hb : b ≠ D := fun z => by subst z; rw [v] at e; cases e
    have q := s.rel.cel b c e
    cases c with
    | lst us => obtain ⟨xs, e1, q1⟩ := q; exact ⟨xs, k _ _ hb e1, q1.stay st⟩
    | rol us => obtain ⟨u, xs, e1, q1⟩ := q; exact ⟨u, xs, k _ _ hb e1, q1.stay st⟩
    | dK us => obtain ⟨xs, e1, q1⟩ := q; exact ⟨xs, k _ _ hb e1, q1.stay st⟩
    | dT us => obtain ⟨xs, e1, q1⟩ := q; exact ⟨xs, k _ _ hb e1, q1.stay st⟩
    | ins C dx fs => obtain ⟨xs, e1, e2, q1⟩ := q; exact ⟨xs, k _ _ hb e1, k _ _ (ne e2 fun _ z => by cases z) e2, q1.stay st⟩
    | any u => exact ⟨k _ _ hb q.1, q.2⟩
    | rel φ =>
      obtain ⟨q1, w, r1⟩ := q
      obtain ⟨q2, w2⟩ := r1 H (upd H D (.dK ws)) (fun b u e n _ => k b u (fun z => by subst z; rw [hD] at e; cases e; exact n True.intro) e) q1 w
      exact ⟨q2, w2, r1⟩
theorem Stp.toldD {W : Wd} {H1 H : Hp} {vh1 vh : VH} {D : Addr} {vs : List (Key × V)} {us : List (Key × U)} (s : Stp W H1 vh1 H vh) (n : H1 D = none) (hD : H D = some (.dK vs)) (q : RelKV W.K H us vs) : Stp W H1 vh1 H (vput vh D (.dK us)) := by
  refine ⟨s.tup, s.fr, s.liv, fun b w e => ?_, ⟨fun b c e => ?_, s.rel.tab, s.rel.sta⟩⟩
  · rw [vput_ne fun z => e (by rw [z]; exact n)]
    exact s.dom b w e
  · by_cases hb : b = D
    · subst hb; rw [vput_same] at e; cases e; exact ⟨vs, hD, q⟩
    · rw [vput_ne hb] at e; exact s.rel.cel b c e
theorem dc_lift {ti : TIV} {g : TGV} {tt : TVb} {tk tv : TV} {ws : List Nat} : ∀ σ H Q, lE (wd X P) E (vDc ti g tt tk tv ws) σ H Q → tDc (lI (wd X P) E ti) (lGw (wd X P) ws g) (lT (wd X P) E0 tt) (lE (wd X P) E0 tk) (lE (wd X P) E0 tv) ws σ H Q := by
  rintro σ H Q ⟨Γ, vh, R, Z, gg, r, q, k, x⟩
  refine ⟨Γ, vh, _, Z, gg, r, q, fun I vh1 q1 J H1 s1 lj D hD => ?_, x⟩
  obtain ⟨W, w0, turn⟩ := q1
  have sD : Stp (wd X P) H1 vh1 (upd H1 D (.dK [])) vh1 := Stp.new0 s1.rel hD
  refine ⟨fun i m H' => ∃ acc vs vh', i + m = I.items.length ∧ acc.length ≤ i ∧ W i acc vh' ∧ vh' D = none ∧ H' D = some (.dK vs) ∧ RelKV X.K H' acc vs ∧ Stp (wd X P) H1 vh1 H' vh', ⟨I.items.length, [], [], vh1, by omega, Nat.le_refl _, w0, s1.rel.fresh hD, upd_same, rfl, sD⟩, fun i m H' ⟨acc, vs, vh', em, la, w, vD, hD', qa, s⟩ => ?_⟩
  obtain ⟨ok, fin, step⟩ := turn i acc vh' w la
  obtain ⟨j1, j2⟩ := lj i H' vh' s.tup s.rel ok
  have s' := s1.trans s
  by_cases hm : m = 0
  · have hi : i = I.items.length := by omega
    exact .inl ⟨j1 hi, k _ _ (fin hi D vD) _ _ (s1.trans (s.toldD hD hD' qa)) rfl⟩
  · have hlt : i < I.items.length := by omega
    have hu : I.items[i]? = some I.items[i] := List.getElem?_eq_getElem hlt
    obtain ⟨go, y⟩ := j2 _ hu
    obtain ⟨hz, body⟩ := step _ hu
    have hDn : H' D ≠ none := by rw [hD']; simp
    refine .inr ⟨go, fun H2 => ∃ acc vs vh2, acc.length ≤ i + 1 ∧ W (i + 1) acc vh2 ∧ vh2 D = none ∧ H2 D = some (.dK vs) ∧ RelKV X.K H2 acc vs ∧ Stp (wd X P) H1 vh1 H2 vh2, fun H2 ⟨acc, vs, vh2, e1, e2, e3, e4, e5, e6⟩ => ⟨m - 1, by omega, acc, vs, vh2, by omega, e1, e2, e3, e4, e5, e6⟩, fun v H2 hy => ?_⟩
    obtain ⟨s2, r2⟩ := y v H2 hy
    have g2 : RelG X.K H2 (wipeV Γ ws) (wipe σ ws) := ((gg.wipe ws).stay s'.tup).stay s2.tup
    refine ⟨_, _, vh', _, r2, g2, s2.rel, body, fun Γ3 vh3 q3 σ3 H3 s3 g3 w3 => ⟨by rw [w3]; exact wipe_wipe, ?_⟩⟩
    refine ⟨Γ3, vh3, _, Z0, g3, s3.rel, q3, fun b vh4 q4 H4 s4 => ?_, LX.none⟩
    have s24 := (s2.trans s3).trans s4
    have D4 : H4 D = some (.dK vs) := s24.fr D _ hD' (fun _ z => by cases z) vD
    have v4 : vh4 D = none := s24.dom D vD hDn
    cases b with
    | false => exact ⟨acc, vs, vh4, Nat.le_succ_of_le la, q4, v4, D4, qa.stay s24.tup, s.trans s24⟩
    | true =>
      refine ⟨Γ3, vh4, _, Z0, g3.stay s4.tup, s4.rel, q4, fun yk vh5 q5 ykv H5 s5 r5 => ?_, LX.none⟩
      split at q5
      · rename_i kk ek
        have ey : ykv = kV kk := by
          cases yk <;> simp [keyU] at ek
          · subst ek; exact r5
          · subst ek; exact r5
        refine ⟨Γ3, vh5, _, Z0, (g3.stay s4.tup).stay s5.tup, s5.rel, q5, fun z vh6 q6 zv H6 s6 r6 => ?_, LX.none⟩
        have s56 := s5.trans s6
        have D6 : H6 D = some (.dK vs) := s56.fr D _ D4 (fun _ z => by cases z) v4
        have v6 : vh6 D = none := s56.dom D v4 (by rw [D4]; simp)
        have sA := s.trans (s24.trans s56)
        have sB : Stp (wd X P) H1 vh1 (upd H6 D (.dK (putK vs kk zv))) vh6 := sA.sideD hD D6 v6
        have ne : ∀ {b u}, H6 b = some u → (∀ x, u ≠ .dK x) → b ≠ D := fun {b u} e h z => by subst z; rw [D6] at e; cases e; exact h _ rfl
        have st : TupStay H6 (upd H6 D (.dK (putK vs kk zv))) := ⟨fun b xs e => by rw [upd_ne (ne e fun _ z => by cases z)]; exact e, fun b o u e => by rw [upd_ne (ne e fun _ z => by cases z)]; exact e⟩
        refine ⟨vs, kk, ey, D6, by rw [RelKV.len qa]; omega, putU acc kk z, putK vs kk zv, vh6, Nat.le_trans (putU_len _ _ _) (by omega), q6, v6, upd_same, ?_, sB⟩
        exact RelKV.put (r6.stay st) ((qa.stay (s24.trans s56).tup).stay st)
      · exact q5.elim
theorem ve_dc {kx vx tg iter : Expr} {ifs : List Expr} {scope : Scope} {own : List (Str × Nat)} {ws : List Nat} {ti : TIV} {g : TGV} {tt : TVb} {tk tv : TV} (hc : X.calm = true) (hN : X.N.Nodup) (hi : VI X P E tg iter ti) (ok : BlkOk X.N X.env.scope scope own)
    (hg : ∀ (s : Shared) (H : Hp) (C : Addr) (cl : List (Str × Addr)) (fp : List Addr), VGw (X.blk s H scope (compEnvC scope cl C X.env) fp) P ws tg g) (ht : ∀ (s : Shared) (H : Hp) (C : Addr) (cl : List (Str × Addr)) (fp : List Addr), VTs (X.blk s H scope (compEnvC scope cl C X.env) fp) P E0 ifs tt)
    (hk : ∀ (s : Shared) (H : Hp) (C : Addr) (cl : List (Str × Addr)) (fp : List Addr), VE (X.blk s H scope (compEnvC scope cl C X.env) fp) P E0 kx tk)
    (he : ∀ (s : Shared) (H : Hp) (C : Addr) (cl : List (Str × Addr)) (fp : List Addr), VE (X.blk s H scope (compEnvC scope cl C X.env) fp) P E0 vx tv) (hs : ∀ x, foldedSetIterable iter X.env x = pure x := by intro _; rfl) (hw : own.map (·.2) = ws := by rfl) :
    VE X P E (.DictComp kx vx [⟨tg, iter, ifs, 0⟩] scope pos) (vDc ti g tt tk tv ws) := by
  subst hw
  exact PE.asks (pe_dc hc hN hi ok hg ht hk he hs) dc_lift
end
end VL

-- part E4
set_option Elab.async false
set_option linter.all false
set_option maxRecDepth 100000
set_option maxHeartbeats 4000000
/-! An own exception class whose __init__ says super().__init__(text, x); self.f = x, made. -/
namespace VL
open PySem PySem.Spec PyProof.Rows L2 Builtin Builtin.ObjectAttr
open PySem.W (ksFn ksEnv ks_superIn ks_superObj kxs_mw excObj excTup excInitIn excOver clsIn mroIn nsIn findIn takerIn hasDictIn isFn subIn typeIn keepIn codeIn KxsFacts)
/-- what a built-in exception class must have -/
structure BX (B newId initId : String) (bm : List Value) : Prop where
  fb : ExcBaseFacts B newId initId bm
  kf : KxsFacts B initId
  sf : StoreFacts B bm "object.__setattr__" "object"
theorem bx_ValueError : BX "ValueError" "ValueError.__new__" "ValueError.__init__" [.type "ValueError", .type "Exception", .type "BaseException", .type "object"] := ⟨PySem.F.excBase_ValueError, PySem.W.kxs_ValueError, PySem.F.store_ValueError⟩
theorem bx_LookupError : BX "LookupError" "LookupError.__new__" "LookupError.__init__" [.type "LookupError", .type "Exception", .type "BaseException", .type "object"] := ⟨PySem.F.excBase_LookupError, PySem.W.kxs_LookupError, PySem.F.store_LookupError⟩
theorem bx_OverflowError : BX "OverflowError" "OverflowError.__new__" "OverflowError.__init__" [.type "OverflowError", .type "ArithmeticError", .type "Exception", .type "BaseException", .type "object"] := ⟨PySem.F.excBase_OverflowError, PySem.W.kxs_OverflowError, PySem.F.store_OverflowError⟩
/-- the body of such an __init__ -/
def supBody (arg fld : Str) (txt : Str) (j : Nat) (p1 p2 p3 p4 p5 p6 p7 p8 p9 p10 p11 : Pos) : List Stmt :=
  [.Expr (.Call (.Attribute (.Call (.Name "super" p1) [] [] p2) "__init__" p3) [.Constant (.str txt) j p4, .Name arg p5] [] p6) p7,
   .Assign [.Attribute (.Name "self" p8) fld p9] (.Name arg p10) p11]
/-- what the written part tells of the class at C and of its __init__ at f -/
structure SupX (prog : Program) (K : PySem.W.Frag) (C f cc cda : Addr) (B newId initId : String) (bm : List Value) (qual arg fld : Str) (scope : Scope) : Prop where
  bx : BX B newId initId bm
  ini : findIn K (.ref C) "__init__" = some (some (.ref f))
  exI : excInitIn K C bm newId = true
  fn : isFn K (.ref f) = true
  cd : codeIn K (.ref cda) qual = true
  code : ∃ ccl cdd vs ccs file tf, K.lookup cda = some ⟨ccl, cdd, .fields vs, ccs⟩ ∧ vs[2]? = some (.str file tf) ∧ ((prog.main.file : Str) == file) = true
  cell : ∃ cl cld csl, K.lookup cc = some ⟨cl, cld, .cell (some (.ref C)), csl⟩
  cls : ∃ cd, clsIn K C = some cd
  mro : mroIn K C (.ref C) = some true
  nos : nsIn K mainGlobals "super" = some none
  top : (prog.main.scope.names.lookup ("super" : Str)).isSome = false
  opa : nsIn K cStatics "thirdparty.any" = some none
  sup : ks_superIn K C C "__init__" = some (some (.builtin initId))
  sub : subIn K (.ref C) (.type B) = some true
  sa : findIn K (.ref C) "__setattr__" = some (some (.builtin "object.__setattr__"))
  ov : excOver K C bm = true
  tk : takerIn K C fld = some none
  hd : hasDictIn K C = true
  ks : scope.names.lookup ("super" : Str) = some .globalImplicit
  kc : scope.names.lookup ("__class__" : Str) = some .free
  k1 : scope.names.lookup ("self" : Str) = some .local
  k2 : scope.names.lookup arg = some .local
  kd : scope.kind = .function
  co : scope.isCoroutine = false
  gen : scope.isGenerator = false
  nc : ∀ x ∈ scope.names, x.2 ≠ .cell
  na : arg ≠ "self"
  nd : (arg == ("__debug__" : Str)) = false
  exC : subIn K (.ref C) (.type "BaseException") = some true
  tyC : typeIn K (.ref C) = some (.type "type")
  kC : keepIn K (.ref C) = true
section
variable {prog : Program} {w : World} {A : Around} {K : PySem.W.Frag} {C f cc cda : Addr} {B newId initId : String} {bm : List Value} {qual arg fld txt : Str} {scope : Scope} {j : Nat} {p1 p2 p3 p4 p5 p6 p7 p8 p9 p10 p11 : Pos}
variable {oc dV kV doc pm ct : Value} {od an : Option Addr} {osl : Array (Option Value)} {params : Arguments} {name : Str} {mg mb : Str → Option Value}
/-- self.fld = v, no dict as yet -/
theorem sup_store {h : Heap} {g : Array GenState} {dr : Drawn} {t : Nat} {os : OsState} {x t1 : Addr} {v : Value} {E : Value → Shared → Prop} {Q : Unit → Shared → Prop} (T : SupX prog K C f cc cda B newId initId bm qual arg fld scope) (X : K.In h) (hx : h.get? x = some (excObj C t1 none .none))
    (hq : ∀ h' tk dx, (∀ b o, b ≠ x → h.get? b = some o → h'.get? b = some o) → h.objs.size ≤ dx → dx ≠ x → h'.get? x = some (excObj C t1 (some dx) .none) → h'.Ns1 dx (fun y => if y = fld then some v else none) → Q () ⟨h', g, dr, tk, os⟩) :
    wpAny (model prog w) A (setAttr (.ref x) fld v) Q E ⟨h, g, dr, t, os⟩ := by
  have hxs : x ≠ h.objs.size := Nat.ne_of_lt (Heap.lt_size hx)
  obtain ⟨cd, hcd, hh⟩ := PySem.W.any_some T.hd
  have I : PySem.W.InstAt h x (excObj C t1 none .none) C none := ⟨hx, rfl, rfl, trivial⟩
  refine PySem.W.set_plain (od := none) X I T.sa (PySem.W.osa_openX T.bx.sf X I T.ov T.tk fun b => ?_)
  have hcls : PySem.W.Looks (model prog w) h (classData C) cd := PySem.W.looks_clsIn X hcd
  obtain ⟨nm, bs, mro, ns, qn, hdd, sn, sb, ab, col, del⟩ := cd
  dsimp only at hh
  subst hh
  unfold storeInOwnDict ownDictForStores
  repeat (first | with_reducible refine HandSPX.store_in_new ?_ ?_ | with_reducible refine wpAny_loadPart_at hx ?_ | with_reducible refine hcls.at ?_ | wp_step)
  · exact ⟨_, #[], _, (Heap.get?_update_ne _ _ _ _ hxs.symm).trans (Heap.get?_push_at rfl rfl), rfl, fun e he => absurd he (by simp), fun _ => rfl⟩
  · intro h' tk' hn' hs
    have hx1 : (h.push { cls := .type "dict", data := .dict #[] }).get? x = some (excObj C t1 none .none) := Heap.get?_push_of_some _ hx
    refine hq h' tk' h.objs.size (fun b o hb ho => ?_) (Nat.le_refl _) hxs.symm ?_ hn'
    · exact (hs.2 b (Nat.ne_of_lt (Heap.lt_size ho))).trans ((Heap.get?_update_ne _ _ _ _ hb).trans (Heap.get?_push_of_some _ ho))
    · exact (hs.2 x hxs).trans (Heap.get?_update_self _ hx1 rfl)
/-- __init__ runs -/
theorem sup_init {s : Shared} {x t0 : Addr} {v : Value} {R : Result → Shared → Prop} (T : SupX prog K C f cc cda B newId initId bm qual arg fld scope) (X : K.In s.heap) (G : s.heap.Ns mainGlobals mg) (BL : s.heap.Ns builtinsNs mb) (hb : ∀ y : Str, y ≠ "__name__" → mb y = bootBuiltins y) (lim : s.heap.NoLimit)
    (lk : K.lookup f = some ⟨oc, od, .func (ksFn name qual params (supBody arg fld txt j p1 p2 p3 p4 p5 p6 p7 p8 p9 p10 p11) scope dV kV doc pm an (.ref cda) ct cc), osl⟩) (hroom : A.depth < recursionLimit)
    (he : ∀ env : Env, ∃ pl : Sem Bool, eval (.Call (.Attribute (.Call (.Name "super" p1) [] [] p2) "__init__" p3) [.Constant (.str txt) j p4, .Name arg p5] [] p6) env = (do
      let ov ← attributeBase (.Call (.Name "super" p1) [] [] p2) "__init__" env (eval (.Call (.Name "super" p1) [] [] p2) env)
      standAt p3.atName
      let (f, first) ← holding [ov] (getMethod ov "__init__" pl)
      callWith p6 f first (backTo p6 (starEach [.Constant (.str txt) j p4, .Name arg p5] env)) []))
    (hp : (params.posonlyargs ++ params.args).head?.map (·.arg) = some ("self" : Str)) (hbind : BindsTo s (ksFn name qual params (supBody arg fld txt j p1 p2 p3 p4 p5 p6 p7 p8 p9 p10 p11) scope dV kV doc pm an (.ref cda) ct cc) ⟨[.ref x, v], []⟩ [("self", .ref x), (arg, v)])
    (hx : s.heap.get? x = some (excObj C t0 none .none)) (nx : K.lookup x = none)
    (hq : ∀ h' tk dx t1, (∀ b o, b ≠ x → s.heap.get? b = some o → h'.get? b = some o) → s.heap.objs.size ≤ dx → dx ≠ x → h'.get? x = some (excObj C t1 (some dx) .none) → h'.Ns1 dx (fun y => if y = fld then some v else none) → R (.ok (.ret .none)) ⟨h', s.gens, s.drawn, tk, s.os⟩) :
    codeAny (model prog w) A (.call (.ref f) ⟨[.ref x, v], []⟩) R s := by
  obtain ⟨ar, har, ear⟩ := Option.map_eq_some_iff.mp hp
  have hloc : ∀ y ∈ [(("self" : Str), Value.ref x), (arg, v)], scope.names.lookup y.1 = some .local := fun y hy => by
    rcases List.mem_cons.mp hy with rfl | hy
    · exact T.k1
    · rw [List.mem_singleton.mp hy]
      exact T.k2
  refine PySem.ks_codeAny_call_defAt (fd := ksFn name qual params (supBody arg fld txt j p1 p2 p3 p4 p5 p6 p7 p8 p9 p10 p11) scope dV kV doc pm an (.ref cda) ct cc) (body := supBody arg fld txt j p1 p2 p3 p4 p5 p6 p7 p8 p9 p10 p11)
    hroom (X _ _ lk) rfl lim (PySem.W.codeRec_of X T.cd) rfl hbind T.nc hloc (fun h1 hns hk1 => ?_) T.co T.gen T.kd
  show _root_.PySem.wpAt (model prog w) (A.deeper (ksEnv qual scope s.heap.objs.size f (.ref cda) cc)) (.func (supBody arg fld txt j p1 p2 p3 p4 p5 p6 p7 p8 p9 p10 p11) (ksEnv qual scope s.heap.objs.size f (.ref cda) cc)) (execs (supBody arg fld txt j p1 p2 p3 p4 p5 p6 p7 p8 p9 p10 p11) (ksEnv qual scope s.heap.objs.size f (.ref cda) cc)) _ _ _
  generalize hL : s.heap.objs.size = L at hns
  have X1 : K.In h1 := X.keeps hk1
  have hx1 := hk1 _ _ hx
  have xL : x ≠ L := by rw [← hL]; exact Nat.ne_of_lt (Heap.lt_size hx)
  -- the ground without the exception
  have F0 : Fr (PySem.W.hideAll s.heap [x]) L h1 (fun y => [(("self" : Str), Value.ref x), (arg, v)].reverse.lookup y) := ⟨hns, fun b o e => hk1 _ _ (PySem.W.of_hideAll _ e), by rw [PySem.W.hideAll_size, hL]; exact Nat.le_refl _⟩
  have X0 : K.In (PySem.W.hideAll s.heap [x]) := fun b o e => PySem.W.hideAll_get _ (X b o e) (by
    intro hm
    rw [List.mem_singleton] at hm
    rw [hm, nx] at e
    cases e)
  have N0 : News (PySem.W.hideAll s.heap [x]) L h1 [(x, excObj C t0 none .none)] := fun p hp => by
    rw [List.mem_singleton.mp hp]
    exact ⟨hx1, xL, PySem.W.hideAll_none _ (by simp)⟩
  have mself : ([(("self" : Str), Value.ref x), (arg, v)].reverse.lookup ("self" : Str)) = some (.ref x) := by
    have e : (("self" : Str) == arg) = false := by simpa using Ne.symm T.na
    show [(arg, v), (("self" : Str), Value.ref x)].lookup ("self" : Str) = _
    simp [List.lookup, e]
  have marg : ([(("self" : Str), Value.ref x), (arg, v)].reverse.lookup arg) = some v := by
    show [(arg, v), (("self" : Str), Value.ref x)].lookup arg = _
    simp [List.lookup]
  obtain ⟨oC, hC1, hC2⟩ : ∃ oC, h1.get? C = some oC ∧ ∃ cd, oC.data = .cls cd := by
    obtain ⟨cd, h⟩ := T.cls
    unfold PySem.W.clsIn at h
    split at h
    · rename_i c d cd' sl ho
      exact ⟨_, X1 _ _ ho, _, rfl⟩
    · cases h
  obtain ⟨cdC, hC2⟩ := hC2
  obtain ⟨ccl, cdd, vs, ccs, file, tf, hcode, hvs, hfile⟩ := T.code
  obtain ⟨cl, cld, csl, hcell⟩ := T.cell
  have hint : interactive (ksEnv qual scope L f (.ref cda) cc) = false := by
    have e : (ksEnv qual scope L f (.ref cda) cc).scope.kind = .function := T.kd
    unfold interactive
    rw [e]
    rfl
  obtain ⟨pl, he⟩ := he (ksEnv qual scope L f (.ref cda) cc)
  refine PySem.ks_wpAt_execs_cons (PySem.ks_wpAt_Expr_any (PySem.ks_wpAt_MethodCall ?_ he) hint rfl)
  refine PySem.ks_wpAt_super_base T.ks T.kc (by decide) rfl (X1 _ _ lk) rfl har rfl (X1 _ _ hcode) rfl hvs hfile T.top ?_
  refine PySem.W.ks_loadName_global T.kd T.ks (Calls.loadGlobal_builtin (env := ksEnv qual scope L f (.ref cda) cc) (G.keeps hk1) (PySem.W.mg_none_of X G T.nos) (BL.keeps hk1) ((hb "super" (by decide)).trans (by decide +kernel)) ⟨rfl, ?_⟩)
  refine wpAny_loadName_free T.kd T.kc rfl ⟨_, X1 _ _ hcell, rfl⟩ ?_
  rw [ear]
  refine wpAny_loadName_local T.kd T.k1 hns mself ?_
  refine PySem.ks_wpAny_isType_cls hC1 hC2 ⟨rfl, ?_⟩
  refine PySem.ks_wpAny_call_super hC1 hC2 hx1 rfl (fun c e => by cases e) (PySem.W.looks_mroIn X1 T.mro) (fun h2 e2 k2 => ?_)
  obtain ⟨F2, N2, l2⟩ := PySem.W.ks_newsPush (s := ⟨h1, s.gens, s.drawn, s.toks + 2, s.os⟩) F0 N0 rfl e2 k2
  have X2 : K.In h2 := X1.keeps k2
  refine PySem.W.kxs_method (so := h1.objs.size) (x := x) (D := C) (C := C) T.bx.kf F2 X0 N2 List.mem_cons_self (PySem.W.InstAt.of_exc0 (t := t0) (c2 := .none) N2 (List.mem_cons_of_mem _ List.mem_cons_self)) T.opa T.sup T.sub (by decide) fun q h3 F3 N3 l3 => ?_
  have lso : x < h1.objs.size := l2 (x, excObj C t0 none .none) (by simp)
  have lq : x < q := l3 (x, excObj C t0 none .none) (by simp)
  refine PySem.W.kxs_callWith1 N3 List.mem_cons_self ?_ rfl rfl
  show wpAny _ _ (spliced ((false, PySem.eval (.Constant (.str txt) j p4) (ksEnv qual scope L f (.ref cda) cc)) :: backTo p6 (starEach [.Name arg p5] (ksEnv qual scope L f (.ref cda) cc)))) _ _ _
  refine Calls.spliced_cons (Calls.Constant_str ?_)
  show wpAny _ _ (spliced ((false, PySem.eval (.Name arg p5) (ksEnv qual scope L f (.ref cda) cc)) :: backTo p6 (starEach [] (ksEnv qual scope L f (.ref cda) cc)))) _ _ _
  refine Calls.spliced_cons (wpAny_Name (wpAny_loadName_local T.kd T.k2 F3.ns marg (Calls.spliced_nil ⟨(N3 (q, kxs_mw initId x) (by simp)).1, ?_⟩)) T.nd)
  refine PySem.W.kxs_call F3 X0 N3 T.bx.fb T.exI List.mem_cons_self (.tail (Nat.ne_of_gt lq) (.tail (Nat.ne_of_gt lso) (.head (by simp)))) (by rw [sizeLine_eq]; simp) fun t1 h4 F4 N4 l4 => ?_
  have k4 : ∀ b o, b ≠ x → s.heap.get? b = some o → h4.get? b = some o := fun b o hb e => F4.keep b o (PySem.W.hideAll_get _ e (by simpa using hb))
  have X4 : K.In h4 := fun b o e => k4 b o (fun z => by rw [z, nx] at e; cases e) (X b o e)
  have hx4 : h4.get? x = some (excObj C t1 none .none) := (N4 (x, excObj C t1 none .none) (by simp)).1
  refine PySem.ks_wpAt_execs_cons (wpAt_of_wpAny (plainObj_wpAny_Assign_Attribute (wpAny_Name (wpAny_loadName_local T.kd T.k2 F4.ns marg (wpAny_Name (wpAny_loadName_local T.kd T.k1 F4.ns mself ?_))) T.nd) rfl))
  refine sup_store T X4 hx4 fun h5 tk dx k5 d1 d2 hx5 hn5 => ?_
  refine wpAt_of_wpAny (wpAny_execs_nil ?_)
  have sz : s.heap.objs.size ≤ h4.objs.size := by
    obtain ⟨oL, _, _, eL, _⟩ := F4.ns
    rw [hL]
    exact Nat.le_of_lt (Heap.lt_size eL)
  exact hq h5 tk dx t1 (fun b o hb e => k5 b o hb (k4 b o hb e)) (Nat.le_trans sz d1) d2 hx5 hn5
end
/-- C(e): the reading -/
def tMkS (C : Addr) (fld : Str) (te : TE) : L2.St → Hp → XK → Prop := fun σ H Q => te σ H fun y H1 => ∀ d, H1 d = none → Q (.ref C) (some d) (upd H1 d (.xd [(fld, y)]))
section
variable {X : Cx} {C f cc cda : Addr} {B newId initId : String} {bm : List Value} {qual arg fld txt : Str} {scope : Scope} {j : Nat} {p1 p2 p3 p4 p5 p6 p7 p8 p9 p10 p11 : Pos}
variable {oc dV kV doc pm ct : Value} {od an : Option Addr} {osl : Array (Option Value)} {params : Arguments} {name x : Str} {e : Expr} {te : TE} {p pos : Pos} {k : Nat}
theorem pmk_sup (T : SupX X.prog X.K C f cc cda B newId initId bm qual arg fld scope)
    (lk : X.K.lookup f = some ⟨oc, od, .func (ksFn name qual params (supBody arg fld txt j p1 p2 p3 p4 p5 p6 p7 p8 p9 p10 p11) scope dV kV doc pm an (.ref cda) ct cc), osl⟩)
    (he : ∀ env : Env, ∃ pl : Sem Bool, PySem.eval (.Call (.Attribute (.Call (.Name "super" p1) [] [] p2) "__init__" p3) [.Constant (.str txt) j p4, .Name arg p5] [] p6) env = (do
      let ov ← attributeBase (.Call (.Name "super" p1) [] [] p2) "__init__" env (PySem.eval (.Call (.Name "super" p1) [] [] p2) env)
      standAt p3.atName
      let (f, first) ← holding [ov] (getMethod ov "__init__" pl)
      callWith p6 f first (backTo p6 (starEach [.Constant (.str txt) j p4, .Name arg p5] env)) []))
    (hp : (params.posonlyargs ++ params.args).head?.map (·.arg) = some ("self" : Str))
    (hbind : ∀ (s : Shared) (u v : Value), BindsTo s (ksFn name qual params (supBody arg fld txt j p1 p2 p3 p4 p5 p6 p7 p8 p9 p10 p11) scope dV kV doc pm an (.ref cda) ct cc) ⟨[u, v], []⟩ [("self", u), (arg, v)])
    (hr : Room (k + 1) X.A) (hg : Gl X x) (hm : X.mg x = some (.ref C)) (ha : PE X e te) (hdb : (x == ("__debug__" : Str)) = false := by decide)
    (hs : starEach [e] X.env = (false, PySem.eval e X.env) :: starEach [] X.env := by rfl) (hpl : (backTo pos (starEach [] X.env)).any (·.1) = false := by rfl) :
    PMk X (.Call (.Name x p) [e] [] pos) (tMkS C fld te) := by
  intro pins s σ H Q I h
  refine wpAny_Call_Name_kw (ld_glob I hg hm ?_ hdb)
  have hA : PA X [e] (fun σ H R => te σ H fun y H1 => R [y] H1) := pa_cons ha pa_nil hs
  refine PySem.W.callWith_K (h₀ := X.base) I.ok.mod.kin T.kC (thn (hA.run pos pins s σ H (fun vs H1 => match vs with
    | [y] => ∀ d, H1 d = none → Q (.ref C) (some d) (upd H1 d (.xd [(fld, y)]))
    | _ => False) I h) fun us s1 ⟨vs, H1, I1, r1, q0⟩ => ⟨I1.kIn, ?_⟩) hs hpl
  obtain ⟨y, ey, q1⟩ : ∃ y, vs = [y] ∧ ∀ d, H1 d = none → Q (.ref C) (some d) (upd H1 d (.xd [(fld, y)])) := by
    cases vs with
    | nil => exact q0.elim
    | cons y r =>
      cases r with
      | nil => exact ⟨_, rfl, q0⟩
      | cons _ _ => exact q0.elim
  subst ey
  obtain ⟨v, rfl, rv⟩ := vals1 r1
  show wpAny _ _ (call (.ref C) [v]) _ _ _
  obtain ⟨nm, N', qn, bs, bm', hdct, sn, sub, ab, col, dd, k0, k1, k2, k3, k5, hC, hT⟩ := PySem.W.excInit_of I1.kIn T.exI
  obtain ⟨mb, hb1, hb2⟩ := I1.ok.mod.blt
  have hbase : ∀ b o, X.base.get? b = some o → s1.heap.get? b = some o := fun b o e => (I1.bs b o e).1
  have szb : X.base.objs.size ≤ s1.heap.objs.size := Nat.le_trans I1.ok.bsz I1.sz
  obtain ⟨hp0, g, dr, tk, os⟩ := s1
  have hk : ∀ b o, hp0.get? b = some o → ((hp0.push (PySem.W.kdv_tup [v])).push (HandSPX.excO C hp0.objs.size)).get? b = some o := fun b o e => Heap.get?_push_of_some _ (Heap.get?_push_of_some _ e)
  have hget : ((hp0.push (PySem.W.kdv_tup [v])).push (HandSPX.excO C hp0.objs.size)).get? (hp0.objs.size + 1) = some (HandSPX.excO C hp0.objs.size) := by heap_get
  have hkb : ∀ b o, X.base.get? b = some o → ((hp0.push (PySem.W.kdv_tup [v])).push (HandSPX.excO C hp0.objs.size)).get? b = some o := fun b o e => hk b o (hbase b o e)
  have nx : X.K.lookup (hp0.objs.size + 1) = none := by
    cases z : X.K.lookup (hp0.objs.size + 1) with
    | none => rfl
    | some o =>
      have e := I1.kIn _ _ z
      exact absurd (Heap.lt_size e) (by simp)
  refine wpAny_call (HandSPX.call_own T.bx.fb hT hC (PySem.W.looks_findIn I1.kIn T.ini) (fun self => PySem.W.bind_fn I1.kIn self (by have h := T.fn; exact beq_iff_eq.mp h)) (by rw [sizeLine_eq]; simp)
    (sup_init (mg := X.mg) (mb := mb) (t0 := hp0.objs.size) T (I1.kIn.keeps hk) (I1.ok.mod.glob.keeps hkb) (hb1.keeps hkb) hb2 (I1.ok.mod.nolimit.keeps hkb) lk (hr.make C [v] []).depth he hp (hbind _ _ _) hget nx fun h' tk' dx t1 kk d1 d2 hx' hn' => ?_))
  have nd : H1 dx = none := I1.hok.fresh (Nat.le_trans (by simp only [Heap.size_push]; omega) d1)
  have na : H1 (hp0.objs.size + 1) = none := I1.hok.fresh (Nat.le_succ _)
  obtain ⟨G, g1, g2⟩ := restrict h' fun b => decide (b ≠ hp0.objs.size + 1)
  have gk : ∀ b, b ≠ hp0.objs.size + 1 → G.get? b = h'.get? b := fun b hb => g1 b (decide_eq_true hb)
  have ge : G.get? (hp0.objs.size + 1) = none := g2 _ (by simp)
  have kG : ∀ b o, hp0.get? b = some o → G.get? b = some o := fun b o e => by
    have hb : b ≠ hp0.objs.size + 1 := Nat.ne_of_lt (Nat.lt_succ_of_lt (Heap.lt_size e))
    rw [gk b hb]
    exact kk b o hb (hk b o e)
  have ok : ObjOk X.prog X.w (upd H1 dx (.xd [(fld, y)])) G dx (.xd [(fld, y)]) := by
    refine ⟨_, hn'.at fun o z => (gk dx d2).trans z, fun fl => ?_⟩
    simp only [List.lookup]
    by_cases hf : fl = fld
    · subst hf
      simp only [beq_self_eq_true, if_true]
      exact rv
    · have : (fl == fld) = false := by simpa using hf
      simp only [this, if_neg hf]
      trivial
  have I3 : Inv X pins σ (upd H1 dx (.xd [(fld, y)])) ⟨G, g, dr, tk', os⟩ := I1.laid (t' := tk') (h' := G) kG (Nat.le_trans (by simp only [Heap.size_push]; omega) d1) ok
  refine ⟨rfl, hp0.objs.size + 1, _, _, ⟨G, g, dr, tk', os⟩, _, .ref C, some dx, rfl, I3, fun b o z => ?_, ge, hx', ⟨rfl, rfl⟩, rfl, rfl, ?_, rfl, I1.bare, raises_own T.exC T.tyC, q1 dx nd⟩
  · by_cases hb : b = hp0.objs.size + 1
    · rw [hb, ge] at z
      cases z
    · exact (gk b hb).symm.trans z
  · rw [upd_ne (Ne.symm d2)]
    exact na
end
end VL

-- part V8
set_option Elab.async false
set_option linter.all false
set_option maxRecDepth 100000
set_option maxHeartbeats 4000000
/-! Layer V, part 8: defs, their promises, their calls; raise. -/
namespace VL
open PySem PySem.Spec PyProof.Rows L2

/-- a def's promise, by values -/
abbrev FV := List U → VH → (U → VH → Prop) → XV → Prop
/-- less is told -/
def SubH (a b : VH) : Prop := ∀ x c, a x = some c → b x = some c
theorem SubH.refl (a : VH) : SubH a a := fun _ _ h => h
theorem SubH.trans {a b c : VH} (h : SubH a b) (g : SubH b c) : SubH a c := fun x d e => g x d (h x d e)
theorem SubH.put {a b : VH} {p : Addr} {c : Cel} (h : SubH a b) (n : a p = none) : SubH a (vput b p c) := fun x d e => by
  rw [vput_ne (fun z => by rw [z, n] at e; cases e)]
  exact h x d e
theorem SubH.put2 {a b : VH} {p : Addr} {c : Cel} (h : SubH a b) : SubH (vput a p c) (vput b p c) := fun x d e => by
  by_cases z : x = p
  · subst z
    rw [vput_same] at e ⊢
    exact e
  · rw [vput_ne z] at e ⊢
    exact h x d e
/-- what is made on the way may be forgotten -/
def RD (R : U → VH → Prop) : U → VH → Prop := fun u vh' => ∃ vh2, SubH vh2 vh' ∧ R u vh2
def ZD (Z : XV) : XV := fun C f u vh' => ∃ vh2, SubH vh2 vh' ∧ Z C f u vh2
theorem RD.of {R : U → VH → Prop} {u : U} {vh vh' : VH} (h : R u vh) (s : SubH vh vh') : RD R u vh' := ⟨vh, s, h⟩
theorem ZD.of {Z : XV} {C : Addr} {f : Str} {u : U} {vh vh' : VH} (h : Z C f u vh) (s : SubH vh vh') : ZD Z C f u vh' := ⟨vh, s, h⟩
def spV (K : PySem.W.Frag) (P : Pk) (F : FV) (n : Nat) : Sp := fun vs H Q E => ∃ us vh R Z, vs.length = n ∧ RelUs K H us vs ∧ RelH ⟨K, P.T, P.S⟩ H vh ∧ F us vh R Z ∧
  (∀ u vh', R u vh' → ∀ v H', Stp ⟨K, P.T, P.S⟩ H vh H' vh' → RelU K H' u v → Q v H') ∧ LX ⟨K, P.T, P.S⟩ E H vh Z
def startV (n : Nat) (us : List U) : EV := us.map some ++ List.replicate (n - us.length) none
theorem relG_start {K : PySem.W.Frag} {H : Hp} {N : List Str} {us : List U} {vs : List V} (r : RelUs K H us vs) : RelG K H (startV N.length us) (L2.start N vs) := by
  refine ⟨by simp [startV, L2.start, r.len], fun i u e => ?_⟩
  unfold startV at e
  by_cases h : i < us.length
  · rw [List.getElem?_append_left (by simpa using h), List.getElem?_map] at e
    cases hu : us[i]? with
    | none => rw [hu] at e; cases e
    | some w =>
      rw [hu] at e
      cases e
      obtain ⟨v, hv, rv⟩ := r.get hu
      refine ⟨v, ?_, rv⟩
      unfold L2.start
      rw [List.getElem?_append_left (by simp [r.len]; exact h), List.getElem?_map, hv]
      rfl
  · rw [List.getElem?_append_right (by simpa using h), List.getElem?_replicate] at e
    split at e <;> cases e
/-- the body at the entry: what the promise asks of its reading -/
def BodyV (F : FV) (N n : Nat) (t : TVs) : Prop := ∀ us vh R Z, us.length = n → F us vh R Z → t ⟨fun _ vh' => RD R .non vh', RD R, fun _ _ => False, fun _ _ => False⟩ (ZD Z) (startV N us) vh
section
variable {P : Program} {w : World} {K : PySem.W.Frag} {mg : Str → Option Value} {base : Heap} {k : Nat} {f : Addr} {name qual : Str} {params : Arguments} {body : List Stmt} {scope : Scope} {dV kV doc pm cdv ct oc : Value} {an od : Option Addr} {osl : Array (Option Value)} {N ps : List Str} {Pd : Pk} {F : FV}
abbrev cxV (P : Program) (w : World) (K : PySem.W.Frag) (mg : Str → Option Value) (base : Heap) (N : List Str) (qual : Str) (scope : Scope) (f : Addr) (cdv : Value) (A : Around) (outer : List Env) (s : Shared) (H : Hp) (E : XK) : Cx := cxOf (L2.CX P w) P w K mg base N qual scope f cdv A outer s H E
theorem lE_end {W : Wd} {H : Hp} {vh : VH} {R : U → VH → Prop} {Q : VK} (k : ∀ u vh', R u vh' → ∀ v H', Stp W H vh H' vh' → RelU W.K H' u v → Q v H') :
    LEnd W H vh ⟨fun _ vh' => RD R .non vh', RD R, fun _ _ => False, fun _ _ => False⟩ { nx := fun _ H' => Q .non H', rt := Q } :=
  ⟨fun Γ' vh' ⟨vh2, s, r⟩ σ' H' st g => k _ _ r _ _ (st.drop s) rfl, fun u vh' ⟨vh2, s, r⟩ v H' st g => k _ _ r _ _ (st.drop s) g, fun _ _ z => z.elim, fun _ _ z => z.elim⟩
theorem lx_end {W : Wd} {E : XK} {H : Hp} {vh : VH} {Z : XV} (x : LX W E H vh Z) : LX W E H vh (ZD Z) := fun C fl u vh' ⟨vh2, s, z⟩ d v H' st r e => x C fl u vh2 z d v H' (st.drop s) r e
/-- THE RULE: a def by its body's reading -/
theorem fnV_of (lk : K.lookup f = some ⟨oc, od, .func (PySem.W.fnOf name qual params body scope dV kV doc pm an cdv ct), osl⟩) (hcd : PySem.W.codeIn K cdv qual = true) (S : FnScope N ps scope)
    (hbody : ∀ (A : Around) (outer : List Env) (s : Shared) (H : Hp) (E : XK), Room k (A.deeper (envOfC qual scope s.heap.objs.size f cdv)) → ∃ t, VSs (cxV P w K mg base N qual scope f cdv A outer s H E) Pd E body t ∧ BodyV F N.length ps.length t) :
    FnOk P w K mg base (L2.CX P w) (k + 1) f (PySem.W.fnOf name qual params body scope dV kV doc pm an cdv ct) ps (spV K Pd F ps.length) := by
  refine fn_of lk hcd S (fun vs H Q E ⟨us, vh, R, Z, hl, _⟩ => hl) fun A outer s H vs Q E hr ⟨us, vh, R, Z, hl, ru, rh, hF, hk, hx⟩ => ?_
  obtain ⟨t, ht, hb⟩ := hbody A outer s H E hr
  refine ⟨_, ht, startV N.length us, vh, _, _, relG_start ru, rh, hb us vh R Z (by rw [← ru.len]; exact hl) hF, lE_end hk, lx_end hx⟩
end
section
variable {X : Cx} {P : Pk} {E : XK} {k : Nat} {f : Addr} {fd : FuncData} {ps ks : List Str} {F : FV} {x : Str} {e : Expr} {es : List Expr} {t tk : TVa} {p pos : Pos} {kws : List Keyword}
/-- what is wanted of an exception of a callee -/
abbrev PassV (X : Cx) (E : XK) : Prop := Passes (L2.CX X.prog X.w) X E
theorem pass0 : PassV X E0 := fun pins σ H s e s' I c => by
  obtain ⟨_, _, _, _, _, _, _, _, _, _, _, _, z⟩ := c
  exact z.elim
theorem takes_cxV {P : Program} {w : World} {K : PySem.W.Frag} {mg : Str → Option Value} {base : Heap} {N : List Str} {qual : Str} {scope : Scope} {f : Addr} {cdv : Value} {A : Around} {outer : List Env} {s : Shared} {H : Hp} {E : XK} :
    Takes (cxV P w K mg base N qual scope f cdv A outer s H E) (fun cls d _ H => E cls d H) := takes_of rfl rfl rfl rfl
theorem pass_of (tk : Takes X (fun cls d _ H => E cls d H)) : PassV X E := passes_call tk fun _ _ _ _ h => h
def vCall (F : FV) (n : Nat) (t : TVa) : TV := fun Γ vh R Z => t Γ vh (fun us vh1 => us.length = n ∧ F us vh1 R Z) Z
theorem ve_call (Fn : FnOk X.prog X.w X.K X.mg X.base (L2.CX X.prog X.w) k f fd ps (spV X.K P F ps.length)) (hr : Room k X.A) (hg : Gl X x) (hm : X.mg x = some (.ref f)) (hk : PySem.W.keepIn X.K (.ref f) = true) (hb : Binds X.K fd ps []) (hx : PassV X E)
    (ha : VA X P E (e :: es) t) (hdb : (x == ("__debug__" : Str)) = false := by decide) (he : starEach (e :: es) X.env = (false, eval e X.env) :: starEach es X.env := by rfl) (hpl : (backTo pos (starEach es X.env)).any (·.1) = false := by rfl) {n : Nat} (hn : ps.length = n := by rfl) :
    VE X P E (.Call (.Name x p) (e :: es) [] pos) (vCall F n t) := by
  subst hn
  refine PE.asks (pe_call (dvs := []) Fn hr hg hm hk hb .nil hx ha hdb he hpl) fun σ H Q ⟨Γ, vh, R, Z, g, rh, q, hk', x'⟩ => ?_
  refine ⟨Γ, vh, _, Z, g, rh, q, fun us vh1 q1 vs H1 s1 r1 => ?_, x'⟩
  show spV X.K P F ps.length (vs ++ []) H1 Q E
  rw [List.append_nil]
  exact ⟨us, vh1, R, Z, by rw [r1.len]; exact q1.1, r1, s1.rel, q1.2, fun u vh' h v H' s r => hk' _ _ h _ _ (s1.trans s) r, x'.step s1⟩
theorem ve_call0 (Fn : FnOk X.prog X.w X.K X.mg X.base (L2.CX X.prog X.w) k f fd ps (spV X.K P F ps.length)) (hr : Room k X.A) (hg : Gl X x) (hm : X.mg x = some (.ref f)) (hk : PySem.W.keepIn X.K (.ref f) = true) (hb : Binds X.K fd ps []) (hx : PassV X E)
    (hdb : (x == ("__debug__" : Str)) = false := by decide) {n : Nat} (hn : ps.length = n := by rfl) : VE X P E (.Call (.Name x p) [] [] pos) (vCall F n vNil) := by
  subst hn
  refine PE.asks (pe_call0 (dvs := []) Fn hr hg hm hk hb .nil hx hdb) fun σ H Q ⟨Γ, vh, R, Z, g, rh, q, hk', x'⟩ => ?_
  exact ⟨[], vh, R, Z, q.1, RelUs.nil, rh, q.2, fun u vh' h v H' s r => hk' _ _ h _ _ s r, x'⟩
/-- keywords -/
abbrev VK' (X : Cx) (P : Pk) (E : XK) (kws : List Keyword) (t : TVa) : Prop := PK X kws (lA (wd X P) E t)
theorem PK.asks {kws : List Keyword} {t u : TA} (h : PK X kws t) (i : ∀ σ H Q, u σ H Q → t σ H Q) : PK X kws u := ⟨fun pos pins s σ H Q I w => h.run pos pins s σ H Q I (i σ H Q w)⟩
theorem vk_nil : VK' X P E [] vNil := PK.asks pk_nil fun _ H _ ⟨_, _, _, _, _, r, t, k, _⟩ => k _ _ t _ _ (.refl r) RelUs.nil
theorem vk_cons {te : TV} {nm : Option Str} {kpos : Pos} (h : VE X P E e te) (hs : VK' X P E kws t) : VK' X P E (⟨nm, e, kpos⟩ :: kws) (vCons te t) := by
  refine PK.asks (pk_cons h hs) fun σ H Q ⟨Γ, vh, R, Z, g, r, q, k, x⟩ => ?_
  refine ⟨Γ, vh, _, Z, g, r, q, fun u vh1 q1 v H1 s1 r1 => ?_, x⟩
  refine ⟨Γ, vh1, _, Z, g.stay s1.tup, s1.rel, q1, fun us vh2 q2 vs H2 s2 r2 => ?_, x.step s1⟩
  exact k _ _ q2 _ _ (s1.trans s2) (RelUs.cons (r1.stay s2.tup) r2)
/-- how a call by names alone binds -/
def KB0 (K : PySem.W.Frag) (fd : FuncData) (ps ks : List Str) : Prop := ∀ (s : Shared) (ws : List Value), K.In s.heap → ws.length = ps.length → BindsTo s fd ⟨[], ks.zip ws⟩ (ps.zip ws)
theorem kb0_of {K : PySem.W.Frag} (h : ∀ ws : List Value, ws.length = ps.length → bindArgs fd ⟨[], ks.zip ws⟩ = pure (ps.zip ws)) : KB0 K fd ps ks := fun s ws _ hl => .of_eq (h ws hl)
/-- f(k = v, ..), all by name, in the parameters' order -/
theorem pe_callK0 {CX : CXT} {sp : Sp} {tk : TA} (Fn : FnOk X.prog X.w X.K X.mg X.base CX k f fd ps sp) (hr : Room k X.A) (hg : Gl X x) (hm : X.mg x = some (.ref f)) (hk : PySem.W.keepIn X.K (.ref f) = true) (hb : KB0 X.K fd ps ks) (hx : Passes CX X E)
    (hkw : PK X kws tk) (hall : (backToKw pos (keywordEach kws X.env)).all (·.1.isSome) = true := by rfl) (hks : (backToKw pos (keywordEach kws X.env)).filterMap (·.1) = ks := by rfl)
    (hdb : (x == ("__debug__" : Str)) = false := by decide) (hpl : ((backTo pos (starEach [] X.env)).any (·.1) || (backToKw pos (keywordEach kws X.env)).any (·.1.isNone)) = false := by rfl) :
    PE X (.Call (.Name x p) [] kws pos) (fun σ H Q => tk σ H fun zs H2 => sp zs H2 Q E) := by
  refine ⟨fun pins s σ H Q I h => wpAny_Call_Name_kw (ld_glob I hg hm ?_ hdb)⟩
  refine PySem.W.callWith_KW0 (h₀ := X.base) I.ok.mod.kin hk hall (thn (hkw.run pos pins s σ H _ I h) fun ws s2 ⟨zs, H2, I2, rz, q2⟩ => ⟨I2.kIn, ?_⟩) hpl
  rw [hks]
  have hl : ws.length = ps.length := by rw [← rz.length]; exact Fn.len _ _ _ _ q2
  refine wpAny_call (codeAny_mono (Fn.run X.A X.stack s2 H2 ⟨[], ks.zip ws⟩ ws zs Q E hr I2.env0 (hb s2 ws I2.kIn hl) rz q2) fun r s' hq => ?_)
  cases r with
  | error e => exact hx pins σ H2 s2 e s' I2 hq
  | ok fl =>
    cases fl with
    | ret u => exact I2.after hq
    | next => exact False.elim hq
    | brk => exact False.elim hq
    | cont => exact False.elim hq
theorem ve_callK0 (Fn : FnOk X.prog X.w X.K X.mg X.base (L2.CX X.prog X.w) k f fd ps (spV X.K P F ps.length)) (hr : Room k X.A) (hg : Gl X x) (hm : X.mg x = some (.ref f)) (hk : PySem.W.keepIn X.K (.ref f) = true) (hb : KB0 X.K fd ps ks) (hx : PassV X E)
    (hkw : VK' X P E kws t) (hall : (backToKw pos (keywordEach kws X.env)).all (·.1.isSome) = true := by rfl) (hks : (backToKw pos (keywordEach kws X.env)).filterMap (·.1) = ks := by rfl)
    (hdb : (x == ("__debug__" : Str)) = false := by decide) (hpl : ((backTo pos (starEach [] X.env)).any (·.1) || (backToKw pos (keywordEach kws X.env)).any (·.1.isNone)) = false := by rfl) {n : Nat} (hn : ps.length = n := by rfl) :
    VE X P E (.Call (.Name x p) [] kws pos) (vCall F n t) := by
  subst hn
  refine PE.asks (pe_callK0 Fn hr hg hm hk hb hx hkw hall hks hdb hpl) fun σ H Q ⟨Γ, vh, R, Z, g, rh, q, hk', x'⟩ => ?_
  refine ⟨Γ, vh, _, Z, g, rh, q, fun us vh1 q1 vs H1 s1 r1 => ?_, x'⟩
  exact ⟨us, vh1, R, Z, by rw [r1.len]; exact q1.1, r1, s1.rel, q1.2, fun u vh' h v H' s r => hk' _ _ h _ _ (s1.trans s) r, x'.step s1⟩
/-- raise C(e) -/
def sRaise (C : Addr) (fld : Str) (te : TV) : TVs := fun _ Z Γ vh => te Γ vh (fun u vh1 => Z C fld u vh1) Z
theorem vs_raise {C : Addr} {fld : Str} {te : TV} (hc : X.calm = true) (tk : Takes X (fun cls d _ H => E cls d H)) (he : PMk X e (tMkS C fld (lE (wd X P) E te))) : VS X P E (.Raise (some e) none pos) (sRaise C fld te) := by
  refine PS.asks (ps_raise hc tk he) fun D σ H ⟨Γ, vh, R, Z, g, r, q, l, x⟩ => ?_
  refine ⟨Γ, vh, _, Z, g, r, q, fun u vh1 q1 v H1 s1 r1 d hd => ?_, x⟩
  have s2 : Stp (wd X P) H1 vh1 (upd H1 d (.xd [(fld, v)])) vh1 := Stp.new0 s1.rel hd
  exact x C fld u vh1 q1 d v _ (s1.trans s2) (r1.stay s2.tup) upd_same
end
end VL

-- part E5
set_option Elab.async false
set_option linter.all false
set_option maxRecDepth 100000
set_option maxHeartbeats 4000000
/-! try: body, several clauses 'except C as n'. -/
namespace VL
open PySem PySem.Spec PyProof.Rows L2
/-- one clause: its class, the slot of its name, its suite's reading -/
abbrev Cls1 := Value × Nat × (Addr → Value → Option Addr → TS)
/-- the suite's end: the name goes -/
def goneD (D : Ends) (i : Nat) : Ends := { nx := fun σ' H' => D.nx (σ'.set i none) H', rt := D.rt, bk := fun σ' H' => D.bk (σ'.set i none) H', ct := fun σ' H' => D.ct (σ'.set i none) H' }
def wAll (K : PySem.W.Frag) (n : Nat) (Wout : WX) (D : Ends) : List Cls1 → WX
  | [] => Wout
  | (c, i, ts) :: r => fun cls d σ H => ∃ b, PySem.W.exmOne K cls c = some b ∧ (b = true → σ.length = n → ∀ a, H a = none → ts a cls d (goneD D i) (σ.set i (some (.ref a))) H) ∧ (b = false → wAll K n Wout D r cls d σ H)
inductive ClsOk (X : Cx) : List ExceptHandler → List Cls1 → Prop
  | nil : ClsOk X [] []
  | cons {x n : Str} {c : Value} {i : Nat} {ts : Addr → Value → Option Addr → TS} {b₀ : Stmt} {suite : List Stmt} {np pos' : Pos} {hds : List ExceptHandler} {l : List Cls1} (hc : Names X x c) (hi : X.N[i]? = some n) (hln : X.env.kindOf n = some .local)
      (hsu : ∀ (a : Addr) (oe : Obj) (cls : Value) (d : Option Addr) (pn : List (Addr × Obj)), Zc cls d oe → (∃ vs, oe.data = .fields vs) → PSs (X.suite a ((a, oe) :: pn)) (b₀ :: suite) (ts a cls d)) (r : ClsOk X hds l) :
      ClsOk X (.ExceptHandler (some (.Name x np)) (some n) (b₀ :: suite) pos' :: hds) ((c, i, ts) :: l)
section
variable {X : Cx} {body : List Stmt} {h₀ : ExceptHandler} {hds : List ExceptHandler} {l : List Cls1} {pos : Pos} {tb : WX → TS} {Wout : WX}
theorem ps_try_asN (hs : X.stack = X.env :: X.outer) (hf : X.env.frame = some X.env.locals) (hN : X.N.Nodup) (tk : Takes X Wout)
    (hb : ∀ (W : WX) (pn : List (Addr × Obj)) (xe : Value → Shared → Prop), Takes (X.tr pn xe) W → PassesOwn (model X.prog X.w) X.A X.env xe → PSs (X.tr pn xe) body (tb W))
    (hh : ClsOk X (h₀ :: hds) l) : PS X (.Try body (h₀ :: hds) [] [] pos) (fun D σ H => tb (wAll X.K X.N.length Wout D l) D σ H) := by
  refine ⟨fun pins s σ H D I h => ?_⟩
  have ok := I.ok
  have hfr : X.A.frames = some (X.env :: X.outer) := by rw [ok.frames, hs]
  refine wpAny_Try_except (wpAny_mono ((hb (wAll X.K X.N.length Wout D l) (X.pn ++ pins) (fun e s₁ => wpAny (model X.prog X.w) X.A (noteFrame e X.env) (fun _ s₂ => wpAny (model X.prog X.w) X.A (setFlight e none) (fun _ s₃ =>
    wpAny (model X.prog X.w) X.A (handleBy e X.env (h₀ :: hds)) (SP X pins D) X.xe s₃) X.xe s₂) X.xe s₁) (fun u s' xx => ?_) PassesOwn.looking).run [] s σ H D (I.toTry _) h) (fun f s1 hsp => ?_) (fun e s1 he => he))
  · obtain ⟨a, B, sI, pins', σ', H', cls, d, rfl, J', nb, up, sky, na, os, ag, w⟩ := xx
    have J : Inv X pins σ' H' sI := J'.ofTry ok
    have sky' : Sky B (X.env :: X.outer) a (Zc cls d) X.env.locals s'.heap := by rw [← hs]; exact sky
    show wpAny (model X.prog X.w) X.A (noteFrame (.ref a) X.env) _ _ _
    refine Sky.land Zc.steady hfr hf sky' fun h3 fl3 up3 => ?_
    have J3 : Inv X pins σ' H' { s' with heap := h3 } := J.landed nb fl3.1 (up.trans up3) os ag
    obtain ⟨oe3, vs3, he3, hz3, hd3⟩ := fl3.there
    have nfr : a ∉ frs (X.env :: X.outer) := fun hm => by
      obtain ⟨_, o', e', hnf⟩ := fl3.2.2.1.mem hm
      rw [he3] at e'
      cases e'
      exact hnf _ hd3
    have nL : a ≠ X.env.locals := fun z => nfr (List.mem_filterMap.mpr ⟨X.env, List.mem_cons_self, by rw [hf, z]⟩)
    have nF : a ∉ X.fs := fun hm => by
      obtain ⟨e, he, q⟩ := List.mem_filterMap.mp hm
      exact nfr (List.mem_filterMap.mpr ⟨e, List.mem_cons_of_mem _ he, q⟩)
    have S3 := J3.suite he3 hd3 na nL nF
    have go : ∀ {hds' : List ExceptHandler} {l' : List Cls1}, ClsOk X hds' l' → wAll X.K X.N.length Wout D l' cls d σ' H' → wpAny (model X.prog X.w) X.A (handleBy (.ref a) X.env hds') (SP X pins D) X.xe { s' with heap := h3 } := by
      intro hds' l' hk
      induction hk with
      | nil =>
        intro w
        obtain ⟨k1, k2, k3, oe, vs, T, oT, ts', he, hz, hd, h1, hr⟩ := id fl3
        refine wpAny_handleBy_nil ?_
        unfold PySem.passOn
        refine wpAny_bind (wpAny_field he hd h1 ?_)
        rw [if_neg (show ¬ ((Value.ref T == Value.none) = true) from by simp)]
        have fin : wpAny (model X.prog X.w) X.A (setFlight (.ref a) X.env.frame) (fun _ s4 => wpAny (model X.prog X.w) X.A (throw (.ref a) : Sem Flow) (SP X pins D) X.xe s4) X.xe { s' with heap := h3 } := by
          rw [hf]
          refine HandSPX.setFlight_upZ fl3 fun h4 hh4 up4 => wpAny_throw (tk _ _ ⟨a, B, sI, pins, σ', H', cls, d, rfl, J, nb, (up.trans up3).trans up4, .inr (.inr (by rw [hs]; exact hh4)), na, os, ag, w⟩)
        first
          | exact wpAny_bind (wpAny_pure (wpAny_bind fin))
          | exact wpAny_bind fin
      | @cons x n c i ts b₀ suite np pos' hds2 l2 hc hi hln hsu r ih =>
        intro w
        obtain ⟨b, hb1, hyes, hno⟩ := w
        refine wpAny_handleBy_cons (codeAny_handlers_test ?_) (by intro q; cases q)
        have LT : PySem.W.Looks (model X.prog X.w) h3 (typeOf (.ref a)) cls := fun A Q E s k q => wpAny_typeOf_ref (k _ _ he3) (by rw [hz3.1]; exact q)
        have LM := PySem.W.exm_one (M := model X.prog X.w) (J3.kIn) LT hb1
        have test : ∀ {Q : Value → Shared → Prop} {E : Value → Shared → Prop}, Q c { s' with heap := h3 } → wpAny (model X.prog X.w) (X.A.mark (some (.ref a))) (eval (.Name x np) X.env) Q E { s' with heap := h3 } := fun {Q E} q => by
          obtain ⟨hg, hdbg, hm | ⟨hm, hv, hnn⟩⟩ := hc
          · exact ld_glob (X := X.suite a ((a, oe3) :: (X.pn ++ pins))) S3 hg hm q hdbg
          · exact ld_blt (X := X.suite a ((a, oe3) :: (X.pn ++ pins))) S3 hg hm hv q hnn hdbg
        refine test (LM.here ?_)
        cases b with
        | true =>
          refine codeAny_handlers_suite_as (HandSPX.lands_againZ fl3 fun h4 fl4 up4 => ?_)
          have J4 : Inv X pins σ' H' { s' with heap := h4 } := J.landed nb fl4.1 ((up.trans up3).trans up4) os ag
          obtain ⟨oe4, vs4, he4, hz4, hd4⟩ := fl4.there
          have S4 := J4.suite he4 hd4 na nL nF
          refine store_ok (X := X.suite a ((a, oe4) :: (X.pn ++ pins))) (v := .ref a) S4 hN hi (.inl hln) rfl (fun s5 S5 => ?_) (.inr hln)
          refine wpAny_mono ((hsu a oe4 cls d (X.pn ++ pins) hz4 ⟨_, hd4⟩).run [] s5 _ H' _ S5 (hyes rfl J4.len a na)) (fun f s6 hsp => ?_) (fun _ _ z => False.elim z)
          have end_ : ∀ {σ6 : L2.St} {H6 : Hp} {Q : Shared → Prop}, Inv (X.suite a ((a, oe4) :: (X.pn ++ pins))) [] σ6 H6 s6 → (∀ s7, Inv X pins (σ6.set i none) H6 s7 → Q s7) →
              wpAny (model X.prog X.w) X.A (do bindName X.env n .none; unbindBehindTheSuite X.env n pos') (fun _ s7 => Q s7) X.xe s6 := fun {σ6 H6 Q} S6 hq => gone_ok (S6.unsuite ok) hN hi hln hq
          cases f with
          | next =>
            obtain ⟨σ6, H6, S6, q6⟩ := hsp
            exact end_ S6 fun s7 J7 => ⟨_, _, J7, q6⟩
          | brk =>
            obtain ⟨σ6, H6, S6, q6⟩ := hsp
            exact end_ S6 fun s7 J7 => ⟨_, _, J7, q6⟩
          | cont =>
            obtain ⟨σ6, H6, S6, q6⟩ := hsp
            exact end_ S6 fun s7 J7 => ⟨_, _, J7, q6⟩
          | ret u =>
            obtain ⟨v6, σ6, H6, S6, r6, q6⟩ := hsp
            exact end_ S6 fun s7 J7 => ⟨_, _, _, J7, r6, q6⟩
        | false =>
          show wpAny _ X.A (handleBy (.ref a) X.env hds2) _ _ _
          exact ih (hno rfl)
    exact go hh w
  · cases f with
    | next =>
      obtain ⟨σ', H', J', q⟩ := hsp
      exact wpAny_execs_nil ⟨σ', H', J'.ofTry ok, q⟩
    | brk =>
      obtain ⟨σ', H', J', q⟩ := hsp
      exact ⟨σ', H', J'.ofTry ok, q⟩
    | cont =>
      obtain ⟨σ', H', J', q⟩ := hsp
      exact ⟨σ', H', J'.ofTry ok, q⟩
    | ret u =>
      obtain ⟨v, σ', H', J', r, q⟩ := hsp
      exact ⟨v, σ', H', J'.ofTry ok, r, q⟩
end
end VL

-- part E6
set_option Elab.async false
set_option linter.all false
set_option maxRecDepth 100000
set_option maxHeartbeats 4000000
/-! Lambdas that are kept: made (with a default 0 or without), called from any frame. -/
namespace VL
open PySem PySem.Spec PyProof.Rows L2 LamX
open PySem.W (kdv_obj kdv_fn kdv_tup)
/-- a lambda's object: its words, its cells, its code object, where its defaults lie -/
structure Clo where
  qual : Str
  params : Arguments
  body : Expr
  scope : Scope
  cl : List (Str × Addr)
  c : Addr
  dT : Option Addr
def dVal : Option Addr → Value
  | some T => .ref T
  | none => .none
def cloH (f : Addr) (F : Clo) : HO := .ext fun h => ∃ doc pm ctv, h.get? f = some (kdv_obj "<lambda>" F.qual F.params (.expr F.body) F.scope F.cl (dVal F.dT) doc pm F.c ctv)
theorem cloH_ne {f : Addr} {F : Clo} (ps : Array Value) : cloH f F ≠ .tbl ps := fun z => by
  unfold cloH at z
  cases z
structure CloAt (H : Hp) (f : Addr) (F : Clo) : Prop where
  fn : H f = some (cloH f F)
  code : H F.c = some (CodeO F.c F.qual)
  dt : ∀ T, F.dT = some T → ∃ o, H T = some (.frz o (.tup [.int 0])) ∧ Bare o
theorem CloAt.ext {H H' : Hp} {f : Addr} {F : Clo} (x : CloAt H f F) (e : ExtN H H') : CloAt H' f F :=
  ⟨e _ _ x.fn cloH_ne, e _ _ x.code codeO_ne, fun T h => by
    obtain ⟨o, h1, b⟩ := x.dt T h
    exact ⟨o, e _ _ h1 (fun ps z => by cases z), b⟩⟩
section
variable {X : Cx} {pins : List (Addr × Obj)} {σ : L2.St} {H : Hp} {s : Shared}
theorem clo_laid {F : Clo} {t' : Nat} {doc pm ctv : Value} (I : Inv X pins σ H s) :
    Inv X pins σ (upd H s.heap.objs.size (cloH s.heap.objs.size F)) { s with heap := s.heap.push (kdv_obj "<lambda>" F.qual F.params (.expr F.body) F.scope F.cl (dVal F.dT) doc pm F.c ctv), toks := t' } := by
  refine I.laid (a := s.heap.objs.size) (fun b u e => Heap.get?_push_of_some _ e) (Nat.le_refl _) ?_
  have e := Heap.get?_push_size s.heap (o := kdv_obj "<lambda>" F.qual F.params (.expr F.body) F.scope F.cl (dVal F.dT) doc pm F.c ctv) rfl
  exact ⟨⟨doc, pm, ctv, e⟩, ⟨_, e⟩, fun h1 h2 ⟨d, p, c, z⟩ st => ⟨d, p, c, st _ z⟩⟩
/-- what stands behind the making -/
structure Made (X : Cx) (pins : List (Addr × Obj)) (σ : L2.St) (T : List (Addr × Str)) (H : Hp) (F : Addr → Clo) (H1 : Hp) (s' : Shared) (f c' : Addr) : Prop where
  inv : Inv X pins σ H1 s'
  ext : ExtN H H1
  gone : ∀ b, H1 b = none → H b = none
  tabs : Tabs T H1
  new : H f = none
  clo : CloAt H1 f (F c')
theorem clo_tail {T : List (Addr × Str)} {c P : Addr} {params : Arguments} {body : Expr} {scope : Scope} {pos : Pos} {E : Value → Shared → Prop} {Q : Value → Shared → Prop} {dT : Option Addr} (I : Inv X pins σ H s) (TB : TabB X.base X.mg c P) (hcode : X.env.code = .ref c)
    (hm : (P, X.env.qual ++ "<lambda>") ∈ T) (hu : ∀ p ∈ T, p.1 = P → p.2 = X.env.qual ++ "<lambda>") (hT : Tabs T H) (hfree : ∀ y ∈ scope.names, y.2 = .free → ∃ c, X.env.cells.lookup y.1 = some c)
    (hd : ∀ T, dT = some T → ∃ o, H T = some (.frz o (.tup [.int 0])) ∧ Bare o)
    (h : ∀ (f c' : Addr) (H1 : Hp) (s' : Shared), Made X pins σ T H (fun c' => ⟨X.env.qual ++ "<lambda>", params, body, scope, cloFrom X.env.cells scope.names [], c', dT⟩) H1 s' f c' → Q (.ref f) s') :
    wpAny (model X.prog X.w) X.A (makeTail "<lambda>" (X.env.qual ++ "<lambda>") params (.expr body) scope X.env (dVal dT) .none none pos pos.line) Q E s := by
  obtain ⟨ps, hP, ht, ha⟩ := hT _ hm
  have bP : s.heap.BuiltinsAt X.mg P := TB.bm.keeps I.bk
  have hP' : s.heap.get? P = some { cls := .none, data := .fields ps } := I.hok P _ hP
  cases hc : codeAmong pos ps.toList with
  | none =>
    refine PySem.W.kdv_makeTail (mg := X.mg) (c := c) (P := P) (ps := ps) (closure_ok hfree) I.ok.glob (I.mod.glob.keeps I.bk) hcode (TB.code.keeps I.bk) hP' ht hc TB.gP bP fun c' ctv doc h' tk hx hge hlt hrec htb => ?_
    obtain ⟨c2, oc, vs, t, e2, hoc, hdd, hv⟩ := hrec
    cases e2
    have nC : H c' = none := I.hok.fresh hge
    have I1 := inv_table (t' := tk) (more := #[rawInt pos.line, rawInt pos.col, .ref c']) (h' := h') I hP (fun b o hb e => hx b o hb e) htb hge ⟨oc, vs, t, hoc, hdd, hv⟩
    have hE : ExtN H (upd (upd H P (.tbl (ps ++ #[rawInt pos.line, rawInt pos.col, .ref c']))) c' (CodeO c' (X.env.qual ++ "<lambda>"))) := fun b o e n => by
      rw [upd_ne (ne_of_none e nC), upd_ne (fun z => n ps (Option.some.inj (e.symm.trans (by rw [z]; exact hP))))]
      exact e
    have eL : (ps ++ #[rawInt pos.line, rawInt pos.col, .ref c']).toList = ps.toList ++ [rawInt pos.line, rawInt pos.col, .ref c'] := by simp
    have T1 : Tabs T (upd (upd H P (.tbl (ps ++ #[rawInt pos.line, rawInt pos.col, .ref c']))) c' (CodeO c' (X.env.qual ++ "<lambda>"))) := fun p hp => by
      by_cases hb : p.1 = P
      · rw [hu p hp hb, hb]
        refine ⟨_, by rw [upd_ne (ne_of_none hP nC), upd_same], by rw [eL]; exact PySem.TriplesOk_snoc _ _ _ _ ht, fun p' cv hcv => ?_⟩
        rw [eL] at hcv
        rcases among_app _ ht hcv with z | z
        · obtain ⟨c0, e1, e2⟩ := ha p' cv z
          exact ⟨c0, e1, hE _ _ e2 codeO_ne⟩
        · exact ⟨c', z, upd_same⟩
      · obtain ⟨ps', a1, a2, a3⟩ := hT p hp
        refine ⟨ps', by rw [upd_ne (ne_of_none a1 nC), upd_ne hb]; exact a1, a2, fun p' cv hcv => ?_⟩
        obtain ⟨c0, e1, e2⟩ := a3 p' cv hcv
        exact ⟨c0, e1, hE _ _ e2 codeO_ne⟩
    have nF := I1.hok.fresh (Nat.le_refl _)
    have I2 := clo_laid (F := ⟨X.env.qual ++ "<lambda>", params, body, scope, cloFrom X.env.cells scope.names [], c', dT⟩) (t' := tk) (doc := doc) (pm := (X.mg "__name__").getD .none) (ctv := ctv) I1
    have k2 : ∀ b o, upd (upd H P (.tbl (ps ++ #[rawInt pos.line, rawInt pos.col, .ref c']))) c' (CodeO c' (X.env.qual ++ "<lambda>")) b = some o →
        upd (upd (upd H P (.tbl (ps ++ #[rawInt pos.line, rawInt pos.col, .ref c']))) c' (CodeO c' (X.env.qual ++ "<lambda>"))) h'.objs.size (cloH h'.objs.size ⟨X.env.qual ++ "<lambda>", params, body, scope, cloFrom X.env.cells scope.names [], c', dT⟩) b = some o := fun b o e => (upd_ne (ne_of_none e nF)).trans e
    have updN : ∀ {H : Hp} {a b : Addr} {o : HO}, upd H a o b = none → H b = none := fun {H a b o} e => by
      unfold upd at e
      split at e
      · cases e
      · exact e
    refine h h'.objs.size c' _ _ ⟨I2, fun b o e n => k2 b o (hE b o e n), fun b e => updN (updN (updN e)), T1.ext k2, I.hok.fresh (Nat.le_trans hge (Nat.le_of_lt hlt)), upd_same, k2 _ _ upd_same, fun T0 hT0 => ?_⟩
    obtain ⟨o, e1, b1⟩ := hd T0 hT0
    exact ⟨o, k2 _ _ (hE _ _ e1 fun ps z => by cases z), b1⟩
  | some cv =>
    obtain ⟨c', e, hco⟩ := ha pos cv hc
    subst e
    refine PySem.W.kdv_makeTailHit (mg := X.mg) (c := c) (P := P) (ps := ps) (closure_ok hfree) I.ok.glob (I.mod.glob.keeps I.bk) hcode (TB.code.keeps I.bk) hP' ht hc bP fun ctv doc h' tk hx hsz => ?_
    have I1 : Inv X pins σ H { s with heap := h', toks := tk } := I.kept hx
    have nF : H h'.objs.size = none := I1.hok.fresh (Nat.le_refl _)
    have I2 := clo_laid (F := ⟨X.env.qual ++ "<lambda>", params, body, scope, cloFrom X.env.cells scope.names [], c', dT⟩) (t' := tk) (doc := doc) (pm := (X.mg "__name__").getD .none) (ctv := ctv) I1
    have k2 : ∀ b o, H b = some o → upd H h'.objs.size (cloH h'.objs.size ⟨X.env.qual ++ "<lambda>", params, body, scope, cloFrom X.env.cells scope.names [], c', dT⟩) b = some o := fun b o e => (upd_ne (ne_of_none e nF)).trans e
    refine h h'.objs.size c' _ _ ⟨I2, fun b o e _ => k2 b o e, fun b e => ?_, hT.ext k2, nF, upd_same, k2 _ _ hco, fun T0 hT0 => ?_⟩
    · unfold upd at e
      split at e
      · cases e
      · exact e
    · obtain ⟨o, e1, b1⟩ := hd T0 hT0
      exact ⟨o, k2 _ _ e1, b1⟩
end
/-- the reading of a lambda without a default -/
def tClo (T : List (Addr × Str)) (F : Addr → Clo) : TE := fun _ H Q => Tabs T H ∧ ∀ f c' H1, ExtN H H1 → (∀ b, H1 b = none → H b = none) → Tabs T H1 → H f = none → CloAt H1 f (F c') → Q (.ref f) H1
/-- with the default 0 -/
def tCloD (T : List (Addr × Str)) (F : Addr → Addr → Clo) : TE := fun _ H Q => Tabs T H ∧ ∀ f c' t H1, ExtN H H1 → (∀ b, H1 b = none → H b = none) → Tabs T H1 → H f = none → CloAt H1 f (F t c') → Q (.ref f) H1
section
variable {X : Cx} {T : List (Addr × Str)} {c P : Addr} {params : Arguments} {body : Expr} {scope : Scope} {pos : Pos}
theorem pe_clo (TB : TabB X.base X.mg c P) (hcode : X.env.code = .ref c) (hm : (P, X.env.qual ++ "<lambda>") ∈ T) (hu : ∀ p ∈ T, p.1 = P → p.2 = X.env.qual ++ "<lambda>") (hfree : X.Ok → ∀ y ∈ scope.names, y.2 = .free → ∃ c, X.env.cells.lookup y.1 = some c) (hdef : defaultsOf params X.env = ([], [])) :
    PE X (.Lambda params body scope pos) (tClo T fun c' => ⟨X.env.qual ++ "<lambda>", params, body, scope, cloFrom X.env.cells scope.names [], c', none⟩) := by
  refine ⟨fun pins s σ H Q I ⟨hT, h⟩ => PySem.W.kla_eval hdef ?_⟩
  rw [makeFunction_eq]
  simp only [List.zip_nil_right, List.filterMap_nil, List.isEmpty_nil, if_true, pure_bind]
  exact clo_tail (dT := none) I TB hcode hm hu hT (hfree I.ok) (fun T z => by cases z) fun f c' H1 s' M => ⟨.ref f, H1, M.inv, rfl, h f c' H1 M.ext M.gone M.tabs M.new M.clo⟩
theorem pe_cloD {j : Nat} {p0 : Pos} (TB : TabB X.base X.mg c P) (hcode : X.env.code = .ref c) (hm : (P, X.env.qual ++ "<lambda>") ∈ T) (hu : ∀ p ∈ T, p.1 = P → p.2 = X.env.qual ++ "<lambda>") (hfree : X.Ok → ∀ y ∈ scope.names, y.2 = .free → ∃ c, X.env.cells.lookup y.1 = some c)
    (hdef : defaultsOf params X.env = (evalEach [.Constant (.int 0) j p0] X.env, [])) :
    PE X (.Lambda params body scope pos) (tCloD T fun t c' => ⟨X.env.qual ++ "<lambda>", params, body, scope, cloFrom X.env.cells scope.names [], c', some t⟩) := by
  refine ⟨fun pins s σ H Q I ⟨hT, h⟩ => ?_⟩
  rw [arm_eval_Lambda, hdef]
  show wpAny _ _ (do let dv ← evalAll (evalEach [.Constant (.int 0) j p0] X.env); let kdv ← holding dv (evalAllOpt []); makeFunction "<lambda>" (X.env.qual ++ "<lambda>") params (.expr body) scope X.env dv kdv [] pos pos.line) _ _ s
  refine wpAny_bind (PySem.W.kdv_all1 (wpAny_Constant_int (PySem.W.kdv_all0 (wpAny_bind (wpAny_holding (wpAny_pure ?_))))))
  rw [makeFunction_eq]
  simp only [List.zip_nil_right, List.filterMap_nil, List.isEmpty_nil, List.isEmpty_cons, Bool.false_eq_true, if_false, if_true, pure_bind]
  refine wpAny_bind (wpAny_newTextTuple ?_)
  have I1 : Inv X pins σ H { s with toks := s.toks + 1 } := I.tok _
  have I2 := lay_tup (t' := s.toks + 1) (xs := [.int 0]) (us := [.int 0 s.toks]) I1 (.cons ⟨_, rfl⟩ .nil) (by rw [sizeLine_eq]; simp)
  have nT : H s.heap.objs.size = none := I.hok.fresh (Nat.le_refl _)
  have k2 : ∀ b o, H b = some o → upd H s.heap.objs.size (.frz { cls := .type "tuple", data := .seq [Value.int 0 s.toks].toArray } (.tup [.int 0])) b = some o := fun b o e => (upd_ne (ne_of_none e nT)).trans e
  refine clo_tail (dT := some s.heap.objs.size) I2 TB hcode hm hu (hT.ext k2) (hfree I.ok) (fun T0 z => by cases z; exact ⟨_, upd_same, rfl, rfl⟩) fun f c' H1 s' M => ⟨.ref f, H1, M.inv, rfl, h f c' _ H1 (fun b o e n => M.ext b o (k2 b o e) n) (fun b e => ?_) M.tabs ?_ M.clo⟩
  · have := M.gone b e
    unfold upd at this
    split at this
    · cases this
    · exact this
  · have := M.new
    unfold upd at this
    split at this
    · cases this
    · exact this
end
end VL

-- part E7
set_option Elab.async false
set_option linter.all false
set_option maxRecDepth 100000
set_option maxHeartbeats 4000000
/-! A kept lambda is called: what it makes of its reading, from any later state. -/
namespace VL
open PySem PySem.Spec PyProof.Rows L2 LamX
open PySem.W (kdv_obj kdv_fn kdv_tup)
/-- a lambda's names: its parameters ps, captured ones and globals -/
structure CloS (N : List Str) (sc scope : Scope) (ps : List Str) : Prop where
  kind : scope.kind = .function
  co : scope.isCoroutine = false
  gen : scope.isGenerator = false
  nc : ∀ y ∈ scope.names, y.2 ≠ .cell
  own : ∀ y ∈ N, scope.names.lookup y ≠ some .local
  free : ∀ y ∈ scope.names, y.2 = .free → sc.names.lookup y.1 = some .cell ∨ sc.names.lookup y.1 = some .free
  par : ∀ y ∈ ps, scope.names.lookup y = some .local
  nd : ps.Nodup
def cloSB (N : List Str) (sc scope : Scope) (ps : List Str) : Bool :=
  decide (scope.kind = .function) && !scope.isCoroutine && !scope.isGenerator && (scope.names.all fun y => !decide (y.2 = .cell)) && (N.all fun y => !decide (scope.names.lookup y = some .local)) &&
    (scope.names.all fun y => !decide (y.2 = .free) || decide (sc.names.lookup y.1 = some .cell) || decide (sc.names.lookup y.1 = some .free)) && (ps.all fun y => decide (scope.names.lookup y = some .local)) && decide ps.Nodup
theorem cloS_by {N : List Str} {sc scope : Scope} {ps : List Str} (h : cloSB N sc scope ps = true) : CloS N sc scope ps := by
  unfold cloSB at h
  simp only [Bool.and_eq_true, Bool.or_eq_true, Bool.not_eq_true', decide_eq_true_eq, decide_eq_false_iff_not, List.all_eq_true] at h
  obtain ⟨⟨⟨⟨⟨⟨⟨h1, h2⟩, h3⟩, h4⟩, h5⟩, h6⟩, h7⟩, h8⟩ := h
  refine ⟨h1, h2, h3, h4, h5, fun y hy e => ?_, h7, h8⟩
  rcases h6 y hy with (z | z) | z
  · exact absurd e z
  · exact .inl z
  · exact .inr z
theorem CloS.has {X : Cx} {N : List Str} {scope : Scope} {ps : List Str} (L : CloS N X.env.scope scope ps) (ok : X.Ok) : ∀ y ∈ scope.names, y.2 = .free → ∃ c, X.env.cells.lookup y.1 = some c := fun y hy e => (L.free y hy e).elim (fun k => ok.has _ (.inl k)) fun k => ok.has _ (.inr k)
/-- the context of the body: the maker's names, then the parameters -/
def cloCx (X : Cx) (A : Around) (outer : List Env) (s : Shared) (H : Hp) (E : XK) (scope : Scope) (f c' : Addr) (ps : List Str) : Cx where
  prog := X.prog
  w := X.w
  K := X.K
  mg := X.mg
  base := X.base
  A := A.deeper (lamEnv X scope s.heap.objs.size f c')
  N := X.N ++ ps
  s_0 := s
  H_0 := H
  env := lamEnv X scope s.heap.objs.size f c'
  outer := outer
  stack := lamEnv X scope s.heap.objs.size f c' :: outer
  ex := []
  fn := fun _ => false
  calm := true
  pn := []
  xe := fun e s' => wpAny (model X.prog X.w) (A.deeper (lamEnv X scope s.heap.objs.size f c')) (leaving (lamEnv X scope s.heap.objs.size f c') e) (fun _ s'' => L2.CX X.prog X.w outer H s E e s'') (fun e' s'' => L2.CX X.prog X.w outer H s E e' s'') s'
/-- later: what was not tracked, and no frame, is as it was -/
theorem Un.later {fs : List Addr} {L : Addr} {H0 H1 H2 : Hp} {h0 h1 h2 : Heap} (a : Un fs [] H0 H1 h0 h1) (b : Un (L :: fs) [] H1 H2 h1 h2) (hL : h0.objs.size ≤ L) : Un fs [] H0 H2 h0 h2 := by
  have ne : ∀ {c o}, h0.get? c = some o → c ≠ L := fun {c o} e => Nat.ne_of_lt (Nat.lt_of_lt_of_le (Heap.lt_size e) hL)
  have nm : ∀ {c o}, h0.get? c = some o → c ∉ fs → c ∉ L :: fs := fun {c o} e n hm => by
    rcases List.mem_cons.mp hm with z | z
    · exact ne e z
    · exact n z
  refine ⟨fun c o e n hc _ => b.keep c o (a.keep c o e n hc (by simp)) (a.free c o e n (by simp)) (nm e hc) (by simp), fun c o e n hc _ => ?_, fun c o e n _ => ?_, fun c o e _ => ?_, fun c xs e => b.tups c xs (a.tups c xs e), fun c o u e => b.frzs c o u (a.frzs c o u e), fun c ps e => ?_⟩
  · obtain ⟨sl, e1⟩ := a.slot c o e n hc (by simp)
    obtain ⟨sl2, e2⟩ := b.slot c _ e1 (a.free c o e n (by simp)) (List.mem_cons_of_mem _ hc) (by simp)
    exact ⟨sl2, e2⟩
  · obtain ⟨o1, e1⟩ := a.there c o e (by simp)
    exact b.free c o1 e1 (a.free c o e n (by simp)) (by simp)
  · obtain ⟨o1, e1⟩ := a.there c o e (by simp)
    exact b.there c o1 e1 (by simp)
  · obtain ⟨m1, e1⟩ := a.tbls c ps e
    obtain ⟨m2, e2⟩ := b.tbls c _ e1
    exact ⟨m1 ++ m2, by rw [e2, Array.append_assoc]⟩
section
variable {X : Cx} {pins : List (Addr × Obj)} {σ : L2.St} {H HZ : Hp} {s s1 : Shared} {ps : List Str}
theorem clo_start {A : Around} {outer : List Env} {E : XK} {scope : Scope} {f c' : Addr} {h₁ : Heap} {tk : Nat} {vs : List V} {us : List Value} (I : Inv X pins σ H s) (L : CloS X.N X.env.scope scope ps) (e0 : Env0 X.prog X.w X.K X.mg X.base A outer s1 HZ) (hd : A.handled = none)
    (un : Un (frs X.stack) [] H HZ s.heap s1.heap) (rv : Vals vs us) (hl : vs.length = ps.length) (hns : h₁.Ns s1.heap.objs.size fun y => (ps.zip us).reverse.lookup y) (kp : ∀ b o, s1.heap.get? b = some o → h₁.get? b = some o) :
    Inv (cloCx X A outer s1 HZ E scope f c' ps) [] (σ ++ vs.map some) HZ { s1 with heap := h₁, toks := tk } := by
  have hfree := L.has I.ok
  have cm : ∀ {y c}, (cloFrom X.env.cells scope.names []).lookup y = some c → X.env.cells.lookup y = some c := fun {y c} e => by
    rcases cloFrom_mem (PySem.mem_of_lookup e) with hm | ⟨h1, h2⟩
    · cases hm
    · obtain ⟨c1, hc⟩ := hfree _ h1 rfl
      have hc : X.env.cells.lookup y = some c1 := hc
      have e2 : c = c1 := by rw [h2, hc] <;> rfl
      rw [e2]
      exact hc
  have look : ∀ {y}, scope.names.lookup y = some .free → ∃ c, (cloFrom X.env.cells scope.names []).lookup y = some c := fun {y} hl => mem_lookup (cloFrom_has (cells := X.env.cells) (acc := []) (PySem.mem_of_lookup hl))
  have cellK : ∀ {c : Addr} {v : Option Value}, H c = none → s.heap.IsCell c v → h₁.IsCell c v := fun {c v} n ⟨o, ho, hdd⟩ => by
    obtain ⟨sl, q⟩ := un.any ho n (by simp)
    exact ⟨_, kp _ _ q, hdd⟩
  have noA : ∀ b : Addr, b ∉ (cloCx X A outer s1 HZ E scope f c' ps).ex := fun b z => absurd (show b ∈ ([] : List Addr) from z) (by simp)
  refine ⟨⟨e0.mod, L.kind, rfl, rfl, Nat.le_refl _, fun y z c e1 e2 => I.ok.inj y z c (cm e1) (cm e2), fun y hy => ?_, fun y c z _ => ?_, fun _ => hd, Around.frames_deeper e0.frames, .inr ⟨rfl, rfl⟩, fun b z => absurd z (noA b), e0.bs, e0.bsz, fun b _ _ => noA b,
      fun b z => absurd z (noA b), e0.funs, e0.frf⟩,
    rfl, e0.bare, Un.kept kp, ⟨_, hns, fun i y v e1 e2 e3 => ?_⟩, fun y c e => ?_, e0.hok.fresh (Nat.le_refl _), fun y c e => ?_, fun q hq => absurd (show q ∈ ([] : List (Addr × Obj)) ++ [] from hq) (by simp), e0.hok.kept kp, ?_⟩
  · have hy : scope.names.lookup y = some .cell ∨ scope.names.lookup y = some .free := hy
    rcases hy with hy | hy
    · exact absurd rfl (L.nc _ (PySem.mem_of_lookup hy))
    · exact look hy
  · have z : false = true := z
    cases z
  · have e3 : Vis scope y := e3
    have e1 : (X.N ++ ps)[i]? = some y := e1
    by_cases hi : i < X.N.length
    · rw [List.getElem?_append_left hi] at e1
      rw [List.getElem?_append_left (by rw [I.len]; exact hi)] at e2
      have hy : y ∈ X.N := List.mem_of_getElem? e1
      rcases e3 with k | k | k
      · exact absurd k (L.own y hy)
      · exact absurd rfl (L.nc _ (PySem.mem_of_lookup k))
      · obtain ⟨m, hn, hlk⟩ := I.loc
        have hvis : Vis X.env.scope y := (L.free _ (PySem.mem_of_lookup k) rfl).elim (fun k => .inr (.inl k)) (fun k => .inr (.inr k))
        obtain ⟨w', r, q⟩ := hlk i y v e1 e2 hvis
        obtain ⟨c2, h2⟩ := look k
        refine ⟨w', r, .inr ⟨.inr k, c2, h2, ?_⟩⟩
        have c1 := cm h2
        rcases q with ⟨k', _⟩ | ⟨_, c3, e', z⟩
        · have k' : X.env.scope.names.lookup y = some .local := k'
          rcases L.free _ (PySem.mem_of_lookup k) rfl with k2 | k2 <;> rw [show X.env.scope.names.lookup y = _ from k2] at k' <;> cases k'
        · rw [c1] at e'
          cases e'
          exact cellK (I.freeC y _ c1) z
    · rw [List.getElem?_append_right (Nat.not_lt.mp hi)] at e1
      rw [List.getElem?_append_right (by rw [I.len]; exact Nat.not_lt.mp hi), I.len, List.getElem?_map] at e2
      obtain ⟨v', ev, e4⟩ := Option.map_eq_some_iff.mp e2
      cases e4
      obtain ⟨u, hu, ru⟩ := rv.get ev
      have hy : y ∈ ps := List.mem_of_getElem? e1
      refine ⟨u, ru, .inl ⟨L.par y hy, ?_⟩⟩
      have key : ∀ (ps : List Str) (us : List Value) (i : Nat), ps.Nodup → ps[i]? = some y → us[i]? = some u → (ps.zip us).reverse.lookup y = some u := by
        intro ps
        induction ps with
        | nil => intro us i _ e _; simp at e
        | cons p ps ih =>
          intro us i nd e eu
          cases us with
          | nil => simp at eu
          | cons w us =>
            rw [List.zip_cons_cons, List.reverse_cons, List.lookup_append]
            obtain ⟨n1, n2⟩ := List.nodup_cons.mp nd
            cases i with
            | zero =>
              simp at e eu
              subst e eu
              have : (ps.zip us).reverse.lookup p = none := by
                cases z : (ps.zip us).reverse.lookup p with
                | none => rfl
                | some q =>
                  have := PySem.mem_of_lookup z
                  exact absurd (List.of_mem_zip (List.mem_reverse.mp this)).1 n1
              rw [this]
              simp [List.lookup]
            | succ i =>
              rw [ih us i n2 (by simpa using e) (by simpa using eu)]
              rfl
      exact key ps us _ L.nd e1 hu
  · obtain ⟨w', z⟩ := I.cell y c (cm e)
    exact ⟨w', cellK (I.freeC y c (cm e)) z⟩
  · obtain ⟨v, o, ho, hdd⟩ := I.cell y c (cm e)
    exact un.free c o ho (I.freeC y c (cm e)) (by simp)
  · show _ = (X.N ++ ps).length
    rw [List.length_append, List.length_append, List.length_map, I.len, hl]
/-- what a call of the value at f makes, at the state s, H and from every later one -/
def ThkAt (X : Cx) (fs : List Addr) (k : Nat) (s : Shared) (H : Hp) (f : Addr) (tl : List V → XK → Hp → VK → Prop) : Prop :=
  ∀ (A : Around) (outer : List Env) (s1 : Shared) (H1 : Hp) (us : List Value) (vs : List V) (Q : VK) (E : XK), Room k A → Env0 X.prog X.w X.K X.mg X.base A outer s1 H1 → Un fs [] H H1 s.heap s1.heap → Vals vs us → tl vs E H1 Q →
    codeAny (model X.prog X.w) A (.call (.ref f) ⟨us, []⟩) (CR (L2.CX X.prog X.w) outer X.prog X.w H1 s1 Q E) s1
theorem ThkAt.later {fs : List Addr} {k : Nat} {f L : Addr} {tl : List V → XK → Hp → VK → Prop} (t : ThkAt X fs k s H f tl) (u : Un fs [] H HZ s.heap s1.heap) (hL : s.heap.objs.size ≤ L) : ThkAt X (L :: fs) k s1 HZ f tl :=
  fun A outer s2 H2 us vs Q E hr e0 un rv h => t A outer s2 H2 us vs Q E hr e0 (VL.Un.later u un hL) rv h
theorem ThkAt.on {fs : List Addr} {k : Nat} {f : Addr} {tl : List V → XK → Hp → VK → Prop} (t : ThkAt X fs k s H f tl) (u : Un fs [] H HZ s.heap s1.heap) : ThkAt X fs k s1 HZ f tl :=
  fun A outer s2 H2 us vs Q E hr e0 un rv h => t A outer s2 H2 us vs Q E hr e0 (u.trans un) rv h
/-- how a lambda binds: full tells all the parameters' values -/
structure CloB (F : Clo) (ps : List Str) (n : Nat) (full : List V → List V) : Prop where
  len : ∀ vs, vs.length = n → (full vs).length = ps.length
  to : ∀ (s : Shared) (doc pm ctv : Value) (vs : List V) (us : List Value), vs.length = n → Vals vs us → (∀ T, F.dT = some T → ∃ t o m, s.heap.get? T = some o ∧ o.data = .seq #[Value.int 0 t] m) →
    ∃ us', Vals (full vs) us' ∧ BindsTo s (kdv_fn "<lambda>" F.qual F.params (.expr F.body) F.scope F.cl (dVal F.dT) doc pm (.ref F.c) ctv) ⟨us, []⟩ (ps.zip us')
theorem clo_dt {T : Addr} {o : Obj} (I : HOk X.prog X.w H s.heap) (e : H T = some (.frz o (.tup [.int 0]))) : ∃ t o m, s.heap.get? T = some o ∧ o.data = .seq #[Value.int 0 t] m := by
  obtain ⟨e1, _, its, rv, o', e2, hc, n, hd⟩ := I T _ e
  obtain ⟨u, rfl, t, rfl⟩ := vals1 rv
  exact ⟨t, o', n, e2, hd⟩
theorem clo_thk {params : Arguments} {body : Expr} {scope : Scope} {f c' : Addr} {dT : Option Addr} {k n : Nat} {full : List V → List V} {tb : XK → TE} (I : Inv X pins σ H s) (L : CloS X.N X.env.scope scope ps)
    (hb : CloB ⟨X.env.qual ++ "<lambda>", params, body, scope, cloFrom X.env.cells scope.names [], c', dT⟩ ps n full)
    (hbody : ∀ (A : Around) (outer : List Env) (s : Shared) (H : Hp) (E : XK), Room k (A.deeper (lamEnv X scope s.heap.objs.size f c')) → PE (cloCx X A outer s H E scope f c' ps) body (tb E)) :
    ThkAt X (frs X.stack) (k + 1) s H f fun vs E H1 Q => vs.length = n ∧ CloAt H1 f ⟨X.env.qual ++ "<lambda>", params, body, scope, cloFrom X.env.cells scope.names [], c', dT⟩ ∧ tb E (σ ++ (full vs).map some) H1 Q := by
  intro A outer s1 H1 us vs Q E hr e0 un rv ⟨hn, at_, ht⟩
  have hf := e0.hok f _ at_.fn
  obtain ⟨⟨doc, pm, ctv, of1⟩, _, _⟩ := hf
  have hc := e0.hok c' _ at_.code
  obtain ⟨⟨oc, vs0, t, hoc, hdc, hvc⟩, _, _⟩ := hc
  have lim : s1.heap.NoLimit := e0.mod.nolimit.keeps fun b o e => (e0.bs b o e).1
  obtain ⟨us', rv', bt⟩ := hb.to s1 doc pm ctv vs us hn rv fun T hT => by
    obtain ⟨o, e1, _⟩ := at_.dt T hT
    exact clo_dt e0.hok e1
  have hl : (full vs).length = ps.length := hb.len vs hn
  refine PySem.W.kla_callFunE hr.depth of1 rfl L.co L.gen rfl ⟨c', oc, vs0, t, rfl, hoc, hdc, hvc⟩ (bt _ _ _ _ ?_)
  refine wpAny_newFunctionEnv L.nc (fun ⟨y, u⟩ hy => L.par y (List.of_mem_zip hy).1) (fun h₁ hns hsb => ⟨lim.fresh _ hsb, ?_⟩) L.kind
  show codeAny _ _ (.expr body (lamEnv X scope s1.heap.objs.size f c')) _ _
  have kp : ∀ b o, s1.heap.get? b = some o → h₁.get? b = some o := fun b o e => hsb.extBut b o (Nat.ne_of_lt (Heap.lt_size e)) (Heap.get?_push_of_some _ e)
  have J := clo_start (E := E) (f := f) (c' := c') (tk := s1.toks + (ps.zip us').length) I L e0 hr.hd un rv' hl hns kp
  refine PySem.W.kla_codeExpr (wpAny_mono ((hbody A outer s1 H1 E (hr.deeper _)).run [] _ _ H1 Q J ht) (fun v s' hq => ?_) fun e s' hq => hq)
  obtain ⟨w', H', J', rv2, q⟩ := hq
  exact ⟨w', H', J'.os, J'.bare, J'.base, J'.hok, rv2, q⟩
/-- no default: all are given -/
theorem cloB_all {F : Clo} {n : Nat} (hd : F.dT = none) (hn : ps.length = n) (h : ∀ (q : Str) (cl : List (Str × Addr)) (doc pm cv ctv : Value) (us : List Value), us.length = n → bindArgs (kdv_fn "<lambda>" q F.params (.expr F.body) F.scope cl .none doc pm cv ctv) ⟨us, []⟩ = pure (ps.zip us)) : CloB F ps n fun vs => vs :=
  ⟨fun vs e => by rw [e, hn], fun s doc pm ctv vs us e r _ => ⟨us, r, by rw [hd]; exact .of_eq (h _ _ _ _ _ _ us (by rw [← r.length]; exact e))⟩⟩
/-- one parameter, its default 0 -/
theorem cloB_dfl {F : Clo} {x : Str} {T : Addr} (hd : F.dT = some T) {k : Option (Array Value) → Sem (List (Str × Value))}
    (h1 : ∀ (q : Str) (cl : List (Str × Addr)) (doc pm cv ctv : Value), bindArgs (kdv_fn "<lambda>" q F.params (.expr F.body) F.scope cl (.ref T) doc pm cv ctv) ⟨[], []⟩ = seqItems? (.ref T) >>= k) (h2 : ∀ t, k (some #[Value.int 0 t]) = pure [(x, Value.int 0 t)]) : CloB F [x] 0 fun _ => [.int 0] :=
  ⟨fun _ _ => rfl, fun s doc pm ctv vs us e r dt => by
    obtain ⟨t, o, m, ho, hdd⟩ := dt T hd
    have : us = [] := by
      cases vs with
      | nil => cases r; rfl
      | cons _ _ => cases e
    subst this
    refine ⟨[.int 0 t], .cons ⟨t, rfl⟩ .nil, ?_⟩
    rw [show dVal F.dT = .ref T from by rw [hd]; rfl]
    exact BindsTo.of_defaults (fd := kdv_fn "<lambda>" F.qual F.params (.expr F.body) F.scope F.cl (.ref T) doc pm (.ref F.c) ctv) rfl ho hdd (h1 _ _ _ _ _ _) (h2 t)⟩
end
end VL

-- part V9
set_option Elab.async false
set_option linter.all false
set_option maxRecDepth 100000
set_option maxHeartbeats 4000000
/-! Layer V, part 9: lambdas that are kept and called; calls whose promise hangs on the state; try. -/
namespace VL
open PySem PySem.Spec PyProof.Rows L2 LamX
/-- a kept lambda, told of the virtual heap -/
def cloF (f : Addr) (F : Clo) : Cel := .rel fun H => CloAt H f F
theorem cloF_rel {K : PySem.W.Frag} {H : Hp} {f : Addr} {F : Clo} (x : CloAt H f F) : RelC K H f (cloF f F) := by
  refine ⟨x, ⟨_, x.fn⟩, fun H1 H2 n y _ => ?_⟩
  have : CloAt H2 f F := ⟨n _ _ y.fn (fun z => z) cloH_ne, n _ _ y.code (fun z => z) codeO_ne, fun T h => by
    obtain ⟨o, h1, b⟩ := y.dt T h
    exact ⟨o, n _ _ h1 (fun z => z) (fun ps z => by cases z), b⟩⟩
  exact ⟨this, _, this.fn⟩
theorem cloF_at {W : Wd} {H : Hp} {vh : VH} {f : Addr} {F : Clo} (r : RelH W H vh) (e : vh f = some (cloF f F)) : CloAt H f F := (r.cel f _ e).1
theorem clo_stp {W : Wd} {H H1 : Hp} {vh : VH} {f : Addr} {F : Clo} (r : RelH W H vh) (e : ExtN H H1) (g : ∀ b, H1 b = none → H b = none) (t : Tabs W.T H1) (n : H f = none) (x : CloAt H1 f F) : Stp W H vh H1 (vput vh f (cloF f F)) := by
  refine ⟨⟨fun b xs h => e b _ h (fun _ z => by cases z), fun b o u h => e b _ h (fun _ z => by cases z)⟩, fun b o h nt _ => e b o h nt, fun b h z => h (g b z), fun b v h => ?_, ⟨fun b c q => ?_, t, r.sta⟩⟩
  · rw [vput_ne fun z => h (by rw [z]; exact n)]
    exact v
  · by_cases z : b = f
    · subst z
      rw [vput_same] at q
      cases q
      exact cloF_rel x
    · rw [vput_ne z] at q
      exact (r.cel b c q).stays fun b o h nt => e b o h nt
section
variable {X : Cx} {P : Pk} {E : XK} {c Pa : Addr} {params : Arguments} {body : Expr} {scope : Scope} {pos : Pos}
def vLam (mk : Addr → Clo) : TV := fun _ vh R _ => ∀ f c', vh f = none → R (.ref f) (vput vh f (cloF f (mk c')))
def vLamD (mk : Addr → Addr → Clo) : TV := fun _ vh R _ => ∀ f c' t, vh f = none → R (.ref f) (vput vh f (cloF f (mk t c')))
theorem ve_lam (TB : TabB X.base X.mg c Pa) (hcode : X.env.code = .ref c) (hm : (Pa, X.env.qual ++ "<lambda>") ∈ P.T) (hu : ∀ p ∈ P.T, p.1 = Pa → p.2 = X.env.qual ++ "<lambda>") {ps : List Str} (L : CloS X.N X.env.scope scope ps) (hdef : defaultsOf params X.env = ([], []) := by rfl) :
    VE X P E (.Lambda params body scope pos) (vLam fun c' => ⟨X.env.qual ++ "<lambda>", params, body, scope, cloFrom X.env.cells scope.names [], c', none⟩) :=
  PE.asks (pe_clo TB hcode hm hu L.has hdef) fun σ H Q ⟨Γ, vh, R, Z, g, r, q, k, x⟩ => ⟨r.tab, fun f c' H1 e gg t n at_ => k _ _ (q f c' (r.fresh n)) _ _ (clo_stp r e gg t n at_) rfl⟩
theorem ve_lamD {j : Nat} {p0 : Pos} (TB : TabB X.base X.mg c Pa) (hcode : X.env.code = .ref c) (hm : (Pa, X.env.qual ++ "<lambda>") ∈ P.T) (hu : ∀ p ∈ P.T, p.1 = Pa → p.2 = X.env.qual ++ "<lambda>") {ps : List Str} (L : CloS X.N X.env.scope scope ps) (hdef : defaultsOf params X.env = (evalEach [.Constant (.int 0) j p0] X.env, []) := by rfl) :
    VE X P E (.Lambda params body scope pos) (vLamD fun t c' => ⟨X.env.qual ++ "<lambda>", params, body, scope, cloFrom X.env.cells scope.names [], c', some t⟩) :=
  PE.asks (pe_cloD TB hcode hm hu L.has hdef) fun σ H Q ⟨Γ, vh, R, Z, g, r, q, k, x⟩ => ⟨r.tab, fun f c' t0 H1 e gg t n at_ => k _ _ (q f c' t0 (r.fresh n)) _ _ (clo_stp r e gg t n at_) rfl⟩
end

/-! ### what a call of a kept thunk makes -/
abbrev TK := VH → (U → VH → Prop) → XV → Prop
def ThkV (P : Program) (w : World) (K : PySem.W.Frag) (mg : Str → Option Value) (base : Heap) (Pd : Pk) (fs : List Addr) (k : Nat) (s : Shared) (H : Hp) (f : Addr) (tv : TK) : Prop :=
  ∀ (A : Around) (outer : List Env) (s1 : Shared) (H1 : Hp) (vh : VH) (R : U → VH → Prop) (Z : XV) (Q : VK) (E : XK), Room k A → Env0 P w K mg base A outer s1 H1 → Un fs [] H H1 s.heap s1.heap → RelH ⟨K, Pd.T, Pd.S⟩ H1 vh → tv vh R Z →
    (∀ u vh', R u vh' → ∀ v H', Stp ⟨K, Pd.T, Pd.S⟩ H1 vh H' vh' → RelU K H' u v → Q v H') → LX ⟨K, Pd.T, Pd.S⟩ E H1 vh Z → codeAny (model P w) A (.call (.ref f) ⟨[], []⟩) (CR (L2.CX P w) outer P w H1 s1 Q E) s1
theorem Un.tupS {fs ex : List Addr} {H H' : Hp} {h h' : Heap} (u : Un fs ex H H' h h') : TupStay H H' := ⟨u.tups, u.frzs⟩
theorem RelG.app {K : PySem.W.Frag} {H : Hp} {Γ : EV} {σ : L2.St} {us : List U} {vs : List V} (g : RelG K H Γ σ) (r : RelUs K H us vs) : RelG K H (Γ ++ us.map some) (σ ++ vs.map some) := by
  refine ⟨by simp [g.len, r.len], fun i u e => ?_⟩
  by_cases h : i < Γ.length
  · rw [List.getElem?_append_left h] at e
    obtain ⟨v, e1, rv⟩ := g.at_ i u e
    exact ⟨v, by rw [List.getElem?_append_left (by rw [g.len]; exact h)]; exact e1, rv⟩
  · rw [List.getElem?_append_right (Nat.not_lt.mp h), List.getElem?_map] at e
    obtain ⟨w, e1, e2⟩ := Option.map_eq_some_iff.mp e
    cases e2
    obtain ⟨v, hv, rv⟩ := r.get e1
    refine ⟨v, ?_, rv⟩
    rw [List.getElem?_append_right (by rw [g.len]; exact Nat.not_lt.mp h), List.getElem?_map, g.len, hv]
    rfl
section
variable {P : Program} {w : World} {K : PySem.W.Frag} {mg : Str → Option Value} {base : Heap} {Pd : Pk} {fs : List Addr} {k : Nat} {s s1 : Shared} {H HZ : Hp} {f L : Addr} {tv : TK}
theorem ThkV.later (t : ThkV P w K mg base Pd fs k s H f tv) (u : Un fs [] H HZ s.heap s1.heap) (hL : s.heap.objs.size ≤ L) : ThkV P w K mg base Pd (L :: fs) k s1 HZ f tv :=
  fun A outer s2 H2 vh R Z Q E hr e0 un rh q k x => t A outer s2 H2 vh R Z Q E hr e0 (VL.Un.later u un hL) rh q k x
theorem ThkV.on (t : ThkV P w K mg base Pd fs k s H f tv) (u : Un fs [] H HZ s.heap s1.heap) : ThkV P w K mg base Pd fs k s1 HZ f tv :=
  fun A outer s2 H2 vh R Z Q E hr e0 un rh q k x => t A outer s2 H2 vh R Z Q E hr e0 (u.trans un) rh q k x
end
section
variable {X : Cx} {P : Pk} {pins : List (Addr × Obj)} {σ : L2.St} {H : Hp} {s : Shared} {ps : List Str} {params : Arguments} {body : Expr} {scope : Scope} {f c' : Addr} {dT : Option Addr} {k : Nat} {tb : TV} {Γ : EV}
/-- the lambda's own reading, at the maker's names -/
def tkOf (f : Addr) (F : Clo) (Γ : EV) (us : List U) (tb : TV) : TK := fun vh R Z => vh f = some (cloF f F) ∧ tb (Γ ++ us.map some) vh R Z
theorem thkV_of {full : List V → List V} {us : List U} (I : Inv X pins σ H s) (g : RelG X.K H Γ σ) (L : CloS X.N X.env.scope scope ps) (hb : CloB ⟨X.env.qual ++ "<lambda>", params, body, scope, cloFrom X.env.cells scope.names [], c', dT⟩ ps 0 full)
    (hu : ∀ H : Hp, RelUs X.K H us (full []))
    (hbody : ∀ (A : Around) (outer : List Env) (s : Shared) (H : Hp) (E : XK), Room k (A.deeper (lamEnv X scope s.heap.objs.size f c')) → VE (cloCx X A outer s H E scope f c' ps) P E body tb) :
    ThkV X.prog X.w X.K X.mg X.base P (frs X.stack) (k + 1) s H f (tkOf f ⟨X.env.qual ++ "<lambda>", params, body, scope, cloFrom X.env.cells scope.names [], c', dT⟩ Γ us tb) := by
  intro A outer s1 H1 vh R Z Q E hr e0 un rh ⟨hf, q⟩ hk x
  refine clo_thk (tb := fun E => lE (wd X P) E tb) I L hb (fun A outer s H E hr => hbody A outer s H E hr) A outer s1 H1 [] [] Q E hr e0 un .nil ⟨rfl, cloF_at rh hf, ?_⟩
  exact ⟨_, vh, R, Z, (g.stay (VL.Un.tupS un)).app (hu H1), rh, q, hk, x⟩
end

/-! ### a call whose promise hangs on the state -/
section
variable {X : Cx} {P : Pk} {E : XK} {k : Nat} {g : Addr} {name qual x : Str} {params : Arguments} {body : List Stmt} {sc : Scope} {dV kV doc pm cdv ct oc : Value} {an od : Option Addr} {osl : Array (Option Value)} {N ps : List Str} {e : Expr} {es : List Expr} {t : TVa} {p pos : Pos} {F : EV → FV}
def vCallS (F : EV → FV) (n : Nat) (t : TVa) : TV := fun Γ vh R Z => t Γ vh (fun us vh1 => us.length = n ∧ F Γ us vh1 R Z) Z
theorem ve_callS (lk : X.K.lookup g = some ⟨oc, od, .func (PySem.W.fnOf name qual params body sc dV kV doc pm an cdv ct), osl⟩) (hcd : PySem.W.codeIn X.K cdv qual = true) (S : FnScope N ps sc) (hr : Room (k + 1) X.A) (hg : Gl X x) (hm : X.mg x = some (.ref g)) (hk : PySem.W.keepIn X.K (.ref g) = true)
    (hb : Binds X.K (PySem.W.fnOf name qual params body sc dV kV doc pm an cdv ct) ps []) (hx : PassV X E) (ha : VA X P E (e :: es) t)
    (hbody : ∀ (pins : List (Addr × Obj)) (σ : L2.St) (H : Hp) (s : Shared) (Γ : EV) (us : List U) (vh : VH) (R : U → VH → Prop) (Z : XV), Inv X pins σ H s → RelG X.K H Γ σ → Room k (X.A.deeper (envOfC qual sc s.heap.objs.size g cdv)) → us.length = ps.length → F Γ us vh R Z →
      ∃ tt, VSs (cxV X.prog X.w X.K X.mg X.base N qual sc g cdv X.A X.stack s H E) P E body tt ∧ tt ⟨fun _ vh' => RD R .non vh', RD R, fun _ _ => False, fun _ _ => False⟩ (ZD Z) (startV N.length us) vh)
    (hdb : (x == ("__debug__" : Str)) = false := by decide) (he : starEach (e :: es) X.env = (false, PySem.eval e X.env) :: starEach es X.env := by rfl) (hpl : (backTo pos (starEach es X.env)).any (·.1) = false := by rfl) :
    VE X P E (.Call (.Name x p) (e :: es) [] pos) (vCallS F ps.length t) := by
  refine ⟨fun pins s σ H Q I ⟨Γ, vh, R, Z, gg, rh, q, k', x'⟩ => wpAny_Call_Name_kw (ld_glob I hg hm ?_ hdb)⟩
  refine PySem.W.callWith_K (h₀ := X.base) I.ok.mod.kin hk (thn (ha.run pos pins s σ H (fun vs H1 => ∃ us vh1, Stp (wd X P) H vh H1 vh1 ∧ RelUs X.K H1 us vs ∧ us.length = ps.length ∧ F Γ us vh1 R Z) I
    ⟨Γ, vh, _, Z, gg, rh, q, fun us vh1 q1 vs H1 s1 r1 => ⟨us, vh1, s1, r1, q1⟩, x'⟩) fun us s2 ⟨vs, H1, I1, r, vus, vh1, s1, r1, hl, hF⟩ => ⟨I1.kIn, ?_⟩) he hpl
  have hlv : vs.length = ps.length := by rw [r1.len]; exact hl
  have rc : codeAny (model X.prog X.w) X.A (.call (.ref g) ⟨us, []⟩) (CR (L2.CX X.prog X.w) X.stack X.prog X.w H1 s2 Q E) s2 := by
    have hbi := hb s2 us I1.kIn (by rw [List.append_nil, ← r.length]; exact hlv)
    rw [List.append_nil] at hbi
    refine run_ofS lk hcd S hr I1.env0 hbi r hlv fun hr' => ?_
    obtain ⟨tt, h1, h2⟩ := hbody pins σ H1 s2 Γ vus vh1 R Z I1 (gg.stay s1.tup) hr' hl hF
    refine ⟨_, h1, startV N.length vus, vh1, _, _, relG_start r1, s1.rel, h2, lE_end fun u vh' h v H' st g => k' _ _ h _ _ (s1.trans st) g, lx_end (x'.step s1)⟩
  refine wpAny_call (codeAny_mono rc fun r s3 hq => ?_)
  cases r with
  | error er => exact hx pins σ H1 s2 er s3 I1 hq
  | ok fl =>
    cases fl with
    | ret u => exact I1.after hq
    | next => exact False.elim hq
    | brk => exact False.elim hq
    | cont => exact False.elim hq
/-- a() -/
def vThk (i : Nat) (f : Addr) (tv : TK) : TV := fun Γ vh R Z => getV Γ i fun u => u = .ref f ∧ tv vh R Z
theorem ve_thk {Y : Cx} {i : Nat} {a : Str} {p1 p2 : Pos} {f : Addr} {tv : TK} (hex : Y.ex = []) (th : ThkV Y.prog Y.w Y.K Y.mg Y.base P Y.fs k Y.s_0 Y.H_0 f tv) (hcl : ∀ vh R Z, tv vh R Z → ∃ F, vh f = some (cloF f F)) (hr : Room k Y.A) (hx : PassV Y E) (hN : Y.N[i]? = some a) (hv : Vis Y.env.scope a)
    (hd : (a == ("__debug__" : Str)) = false := by decide) (hcd : (a == ("__classdict__" : Str)) = false := by decide) : VE Y P E (.Call (.Name a p1) [] [] p2) (vThk i f tv) := by
  refine ⟨fun pins s σ H Q I ⟨Γ, vh, R, Z, g, rh, q, k', x'⟩ => ?_⟩
  simp only [vThk, getV] at q
  split at q
  · rename_i u eu
    obtain ⟨rfl, q⟩ := q
    obtain ⟨v, e1, rv⟩ := g.at_ i _ eu
    have ev : v = .ref f := rv
    subst ev
    refine wpAny_Call_Name_kw (thn ((pe_var (pos := p1) (i := i) hN hv hd hcd).run pins s σ H (fun v H1 => v = .ref f ∧ H1 = H) I ⟨.ref f, e1, rfl, rfl⟩) fun u s1 ⟨v, H1, I1, r1, q1, q2⟩ => ?_)
    subst q1 q2
    obtain rfl : u = Value.ref f := r1
    obtain ⟨F, hF⟩ := hcl vh R Z q
    have at_ := cloF_at rh hF
    obtain ⟨⟨doc, pm, ctv, of1⟩, _, _⟩ := I1.hok f _ at_.fn
    have un : Un Y.fs [] Y.H_0 H1 Y.s_0.heap s1.heap := by
      have b := I1.base
      rw [hex] at b
      exact b
    refine PySem.W.callWith_F0 ⟨_, _, _, _, of1⟩ (wpAny_call (codeAny_mono (th Y.A Y.stack s1 H1 vh R Z Q E hr I1.env0 un rh q k' x') fun r s3 hq => ?_))
    cases r with
    | error er => exact hx pins σ H1 s1 er s3 I1 hq
    | ok fl =>
      cases fl with
      | ret u => exact I1.after hq
      | next => exact False.elim hq
      | brk => exact False.elim hq
      | cont => exact False.elim hq
  · exact q.elim
end
end VL

-- part V10
set_option Elab.async false
set_option linter.all false
set_option maxRecDepth 100000
set_option maxHeartbeats 4000000
/-! Layer V, part 10: try: return e / except C as n: return (label, n.field). -/
namespace VL
open PySem PySem.Spec PyProof.Rows L2
/-- a clause: its class, the slot of its name, its label, the field -/
structure TC where
  C : Addr
  i : Nat
  lab : Str
  fld : Str
inductive TryOk (Y : Cx) : List ExceptHandler → List TC → Prop
  | nil : TryOk Y [] []
  | cons {x n : Str} {c : TC} {j k : Nat} {np p1 p2 p3 p4 p5 pos' : Pos} {hds : List ExceptHandler} {l : List TC} (hc : Names Y x (.ref c.C)) (hi : Y.N[c.i]? = some n) (hln : Y.env.kindOf n = some .local) (T : XfC Y.K c.C) (hno : PySem.W.findIn Y.K (.ref c.C) c.fld = some none)
      (hd : (n == ("__debug__" : Str)) = false) (hcd : (n == ("__classdict__" : Str)) = false)
      (hb : attributeBase (.Name n p2) c.fld Y.env (PySem.eval (.Name n p2) Y.env) = PySem.eval (.Name n p2) Y.env) (hlt : c.i < Y.N.length) (r : TryOk Y hds l) :
      TryOk Y (.ExceptHandler (some (.Name x np)) (some n) [.Return (some (.Tuple [.Constant (.str c.lab) j p1, .Attribute (.Name n p2) c.fld p3] k p4)) p5] pos' :: hds) (c :: l)
/-- what a clause makes of an exception -/
def tryZ (cs : List TC) (R : U → VH → Prop) : XV := fun C fld v vh => ∃ c, cs.find? (fun c => decide (c.C = C)) = some c ∧ c.fld = fld ∧ R (.tup [.str c.lab, v]) vh
def sTry (te : TV) (cs : List TC) : TVs := fun R _ Γ vh => te Γ vh R.rt (tryZ cs R.rt)
def tsOf (c : TC) : Addr → Value → Option Addr → TS := fun a cls d D σ H => tTupF (tCons (tC (.str c.lab)) (tCons (tXf a cls d c.C c.fld (tVar c.i)) tNil)) σ H D.rt
section
variable {Y : Cx} {P : Pk} {E : XK}
theorem tryOk_cls : ∀ {hds : List ExceptHandler} {cs : List TC}, TryOk Y hds cs → ClsOk Y hds (cs.map fun c => (.ref c.C, c.i, tsOf c)) := by
  intro hds cs h
  induction h with
  | nil => exact .nil
  | cons hc hi hln T hno hd hcd hb hlt r ih =>
    refine .cons hc hi hln (fun a oe cls d pn hz hf => ?_) ih
    exact pss_one (ps_ret (pe_tupF (pa_cons pe_str (pa_cons (pe_xf T hno hz hf (pe_var hi (.inl hln) hd hcd) hb) pa_nil))))
theorem vs_try {e : Expr} {h₀ : ExceptHandler} {hds : List ExceptHandler} {cs : List TC} {te : TV} {p pos : Pos} (hs : Y.stack = Y.env :: Y.outer) (hf : Y.env.frame = some Y.env.locals) (hN : Y.N.Nodup)
    (he : ∀ (pn : List (Addr × Obj)) (xe : Value → Shared → Prop) (Ech : XK), PassV (Y.tr pn xe) Ech → VE (Y.tr pn xe) P Ech e te) (hh : TryOk Y (h₀ :: hds) cs) (hil : ∀ c ∈ cs, c.i < Y.N.length)
    (hx : ∀ c ∈ cs, ∀ c' ∈ cs, PySem.W.exmOne Y.K (.ref c.C) (.ref c'.C) = some (decide (c'.C = c.C))) : VS Y P E (.Try [.Return (some e) p] (h₀ :: hds) [] [] pos) (sTry te cs) := by
  refine PS.asks (ps_try_asN (Wout := fun _ _ _ _ => False) (tb := fun W D σ H => ∃ Ech : XK, (∀ cls d σ' H', Ech cls d H' → W cls d σ' H') ∧ lE (wd Y P) Ech te σ H D.rt) hs hf hN takes_none5 (fun W pn xe tk _ => ?_) (tryOk_cls hh)) fun D σ H ⟨Γ, vh, R, Z, g, r, q, l, x⟩ => ?_
  · exact ⟨fun pins s σ H D I ⟨Ech, hW, h⟩ => (pss_one (ps_ret (he pn xe Ech (passes_call tk hW)))).run pins s σ H D I h⟩
  · refine ⟨fun cls d H' => ∃ C fld v vh' dd vv, cls = .ref C ∧ d = some dd ∧ H' dd = some (.xd [(fld, vv)]) ∧ RelU Y.K H' v vv ∧ Stp (wd Y P) H vh H' vh' ∧ tryZ cs R.rt C fld v vh', fun cls d σ' H' ⟨C, fld, v, vh', dd, vv, e1, e2, e3, rv, st, c, hc, ef, hR⟩ => ?_,
      Γ, vh, R.rt, tryZ cs R.rt, g, r, q, l.rt, fun C f u vh' z d v H' st ru hd => ⟨C, f, u, vh', d, v, rfl, rfl, hd, ru, st, z⟩⟩
    subst e1 e2
    have hcm : c ∈ cs := List.mem_of_find?_eq_some hc
    have ecC : c.C = C := by
      have := List.find?_some hc
      simpa using this
    have key : ∀ cs' : List TC, (∀ c' ∈ cs', c' ∈ cs) → cs'.find? (fun c => decide (c.C = C)) = some c → wAll Y.K Y.N.length (fun _ _ _ _ => False) D (cs'.map fun c => (.ref c.C, c.i, tsOf c)) (.ref C) (some dd) σ' H' := by
      intro cs'
      induction cs' with
      | nil => intro _ z; simp at z
      | cons c' r ih =>
        intro hm hfind
        refine ⟨decide (c'.C = C), ?_, fun hb hl a ha => ?_, fun hb => ?_⟩
        · have := hx c hcm c' (hm c' List.mem_cons_self)
          rw [ecC] at this
          exact this
        · have e0 : c'.C = C := of_decide_eq_true hb
          rw [List.find?_cons, show decide (c'.C = C) = true from hb] at hfind
          cases hfind
          refine ⟨_, by rw [List.getElem?_set_self (by rw [hl]; exact hil c hcm)], rfl, by rw [e0], dd, _, vv, rfl, e3, by rw [ef]; simp [List.lookup], by rw [sizeLine_eq]; simp, ?_⟩
          exact newT.met (W := wd Y P) (R := R.rt) st.rel hR (RelUs.cons (show RelU Y.K H' (.str c.lab) (.str c.lab) from rfl) (RelUs.cons rv RelUs.nil)) fun u vh2 h v2 H2 s2 r2 => l.rt _ _ h _ _ (st.trans s2) r2
        · rw [List.find?_cons, show decide (c'.C = C) = false from hb] at hfind
          exact ih (fun c'' h => hm c'' (List.mem_cons_of_mem _ h)) hfind
    exact key cs (fun _ h => h) hc
end
end VL

-- part V11
set_option Elab.async false
set_option linter.all false
set_option maxRecDepth 100000
set_option maxHeartbeats 4000000
/-! Layer V, part 11: the law's own asking: _law_told, _law_is, _law_like. -/
namespace VL
open PySem PySem.Spec PyProof.Rows L2
/-- wishes may be wider -/
def mo (tv : TK) : TK := fun vh R Z => ∃ R0 Z0, tv vh R0 Z0 ∧ (∀ u vh', R0 u vh' → R u vh') ∧ ∀ C f u vh', Z0 C f u vh' → Z C f u vh'
theorem mo.of {tv : TK} {vh : VH} {R : U → VH → Prop} {Z : XV} (h : tv vh R Z) : mo tv vh R Z := ⟨R, Z, h, fun _ _ h => h, fun _ _ _ _ h => h⟩
theorem mo.imp {tv : TK} {vh : VH} {R R' : U → VH → Prop} {Z Z' : XV} (h : mo tv vh R Z) (a : ∀ u vh', R u vh' → R' u vh') (b : ∀ C f u vh', Z C f u vh' → Z' C f u vh') : mo tv vh R' Z' := by
  obtain ⟨R0, Z0, h, h1, h2⟩ := h
  exact ⟨R0, Z0, h, fun u v q => a _ _ (h1 u v q), fun C f u v q => b _ _ _ _ (h2 C f u v q)⟩
theorem ThkV.mo {P : Program} {w : World} {K : PySem.W.Frag} {mg : Str → Option Value} {base : Heap} {Pd : Pk} {fs : List Addr} {k : Nat} {s : Shared} {H : Hp} {f : Addr} {tv : TK} (t : ThkV P w K mg base Pd fs k s H f tv) : ThkV P w K mg base Pd fs k s H f (mo tv) :=
  fun A outer s1 H1 vh R Z Q E hr e0 un rh ⟨R0, Z0, h, h1, h2⟩ q x => t A outer s1 H1 vh R0 Z0 Q E hr e0 un rh h (fun u vh' r => q u vh' (h1 _ _ r)) fun C f u vh' z => x C f u vh' (h2 _ _ _ _ z)
/-- what _law_told makes of a thunk -/
def toldK (tv : TK) (cs : List TC) (R : U → VH → Prop) : VH → Prop := fun vh => tv vh (fun u vh' => RD R (.tup [.str "is", u]) vh') (tryZ cs (RD R))
def vTold (i : Nat) (f : Addr) (tv : TK) (cs : List TC) : TV := fun Γ vh R _ => getV Γ i fun u => u = .ref f ∧ toldK tv cs R vh
section
variable {Xi : Cx} {P : Pk} {E : XK} {k i : Nat} {g f : Addr} {name qual x a : Str} {params : Arguments} {sc : Scope} {dV kV doc pm cdv ct oc : Value} {an od : Option Addr} {osl : Array (Option Value)} {N : List Str} {p p0 p1 p2 p3 p4 p5 pos : Pos} {j kk : Nat} {h₀ : ExceptHandler} {hds : List ExceptHandler} {cs : List TC} {tv : TK}
theorem ve_told (hstk : Xi.stack = Xi.env :: Xi.outer) (hfr : Xi.env.frame = some Xi.env.locals) (hex : Xi.ex = []) (th : ThkV Xi.prog Xi.w Xi.K Xi.mg Xi.base P Xi.fs k Xi.s_0 Xi.H_0 f tv) (hcl : ∀ vh R Z, tv vh R Z → ∃ F, vh f = some (cloF f F))
    (lk : Xi.K.lookup g = some ⟨oc, od, .func (PySem.W.fnOf name qual params [.Try [.Return (some (.Tuple [.Constant (.str "is") j p1, .Call (.Name a p2) [] [] p3] kk p4)) p5] (h₀ :: hds) [] [] p0] sc dV kV doc pm an cdv ct), osl⟩) (hcd : PySem.W.codeIn Xi.K cdv qual = true)
    (S : FnScope N [a] sc) (hN0 : N[0]? = some a) (hr : Room (k + 1) Xi.A) (hg : Gl Xi x) (hm : Xi.mg x = some (.ref g)) (hk : PySem.W.keepIn Xi.K (.ref g) = true) (hb : Binds Xi.K (PySem.W.fnOf name qual params [.Try [.Return (some (.Tuple [.Constant (.str "is") j p1, .Call (.Name a p2) [] [] p3] kk p4)) p5] (h₀ :: hds) [] [] p0] sc dV kV doc pm an cdv ct) [a] [])
    (hx : PassV Xi E) {ai : Str} {pa : Pos} (hNi : Xi.N[i]? = some ai) (hvi : Vis Xi.env.scope ai) (hva : Vis sc a)
    (hh : ∀ (A : Around) (outer : List Env) (s : Shared) (H : Hp) (E : XK), TryOk (cxV Xi.prog Xi.w Xi.K Xi.mg Xi.base N qual sc g cdv A outer s H E) (h₀ :: hds) cs) (hil : ∀ c ∈ cs, c.i < N.length)
    (hexm : ∀ c ∈ cs, ∀ c' ∈ cs, PySem.W.exmOne Xi.K (.ref c.C) (.ref c'.C) = some (decide (c'.C = c.C)))
    (hdb : (x == ("__debug__" : Str)) = false := by decide) (hd1 : (ai == ("__debug__" : Str)) = false := by decide) (hd2 : (ai == ("__classdict__" : Str)) = false := by decide) (hd3 : (a == ("__debug__" : Str)) = false := by decide) (hd4 : (a == ("__classdict__" : Str)) = false := by decide)
    (he : starEach [.Name ai pa] Xi.env = (false, PySem.eval (.Name ai pa) Xi.env) :: starEach [] Xi.env := by rfl) (hpl : (backTo pos (starEach [] Xi.env)).any (·.1) = false := by rfl) :
    VE Xi P E (.Call (.Name x p) [.Name ai pa] [] pos) (vTold i f tv cs) := by
  have hA : VA Xi P E [.Name ai pa] (vCons (vVar i) vNil) := va_cons (ve_var hNi hvi hd1 hd2) va_nil he
  have key := ve_callS (p := p) (F := fun _ us vh R _ => us = [.ref f] ∧ toldK tv cs R vh) lk hcd S hr hg hm hk hb hx hA (fun pins σ H s Γ us vh R Z I gg hr' hl ⟨eu, ht⟩ => ?_) hdb he hpl
  · refine PE.asks key fun σ H Q ⟨Γ, vh, R, Z, g, r, q, k', x'⟩ => ⟨Γ, vh, R, Z, g, r, ?_, k', x'⟩
    unfold vTold getV at q
    show getV Γ i fun u => [u].length = 1 ∧ [u] = [U.ref f] ∧ toldK tv cs R vh
    unfold getV
    split at q
    · rename_i u eu
      obtain ⟨rfl, q⟩ := q
      first | exact ⟨rfl, rfl, q⟩ | (rw [eu]; exact ⟨rfl, rfl, q⟩)
    · exact q.elim
  · subst eu
    have un : Un Xi.fs [] Xi.H_0 H Xi.s_0.heap s.heap := by
      have b := I.base
      rw [hex] at b
      exact b
    have th2 : ThkV Xi.prog Xi.w Xi.K Xi.mg Xi.base P (frs Xi.stack) k s H f tv := by
      have e : frs Xi.stack = Xi.env.locals :: Xi.fs := by
        rw [hstk]
        show List.filterMap _ (Xi.env :: Xi.outer) = _
        rw [List.filterMap_cons, hfr]
        rfl
      rw [e]
      exact th.later un I.ok.above
    refine ⟨_, vss_one (vs_try (te := vTup (vCons (vC (.str "is")) (vCons (vThk 0 f tv) vNil))) rfl rfl S.nd (fun pn xe Ech hp => ?_) (hh _ _ _ _ _) hil hexm), ?_⟩
    · exact ve_tup (va_cons ve_str (va_cons (ve_thk (Y := (cxV Xi.prog Xi.w Xi.K Xi.mg Xi.base N qual sc g cdv Xi.A Xi.stack s H E).tr pn xe) rfl th2 hcl hr' hp hN0 hva hd3 hd4) va_nil))
    · show getV (startV N.length [U.ref f]) 0 fun u => u = .ref f ∧ tv vh (fun w vh1 => 2 ≤ sizeLine ∧ RD R (.tup [.str "is", w]) vh1) (tryZ cs (RD R))
      have e0 : (startV N.length [U.ref f])[0]? = some (some (.ref f)) := rfl
      unfold getV
      rw [e0]
      refine ⟨rfl, ?_⟩
      have e2 : (fun (w : U) (vh1 : VH) => 2 ≤ sizeLine ∧ RD R (.tup [.str "is", w]) vh1) = fun w vh1 => RD R (.tup [.str "is", w]) vh1 := by
        funext w vh1
        have : 2 ≤ sizeLine := by rw [sizeLine_eq]; omega
        simp [this]
      rw [e2]
      exact ht
end
/-! ### _law_like -/
mutual
def likeU : U → U → Bool
  | .tup ts, .tup ds => likeUs ts ds
  | .non, .non => true
  | .bl c, .bl b => c == b
  | .int j, .int i => j == i
  | .str t, .str s => t == s
  | _, _ => false
def likeUs : List U → List U → Bool
  | [], [] => true
  | t :: ts, d :: ds => likeU t d && likeUs ts ds
  | _, _ => false
end
def FLike (n : Nat) : FV := fun us vh R _ => ∃ a b, us = [a, b] ∧ okD 9 a = true ∧ okD n b = true ∧ R (.bl (likeU a b)) vh
/-! ### _law_is -/
def tIs (S : Option (Addr × List Int)) (n : Nat) (cs : List TC) (f : Addr) (tv : TK) : TVs :=
  sSeq (sAsg (vTold 0 f tv cs) (gN 2)) (sSeq (sRet (vAndV (v2 S eqV' (v2 S ixV (vVar 2) (vC (.int 0))) (v2 S ixV (vVar 1) (vC (.int 0)))) (vCall (FLike n) 2 (vCons (v2 S ixV (vVar 2) (vC (.int 1))) (vCons (v2 S ixV (vVar 1) (vC (.int 1))) vNil))))) sNext)
/-- what _law_is makes of a thunk and of what is due -/
def isK (n : Nat) (cs : List TC) (tv : TK) (due : U) (vh : VH) (R : U → VH → Prop) : Prop := ∃ lab du, due = .tup [.str lab, du] ∧ okD 9 (.str lab) = true ∧ okD n du = true ∧
  tv vh (fun u vh1 => okD 9 u = true ∧ RD R (.bl ("is" == lab && likeU u du)) vh1) (fun C fld v vh1 => ∃ c, cs.find? (fun c => decide (c.C = C)) = some c ∧ c.fld = fld ∧ okD 9 v = true ∧ RD R (.bl (c.lab == lab && likeU v du)) vh1)
theorem RD.idem {R : U → VH → Prop} {u : U} {vh : VH} (h : RD (RD R) u vh) : RD R u vh := by
  obtain ⟨vh1, s1, vh2, s2, r⟩ := h
  exact ⟨vh2, s2.trans s1, r⟩
theorem tIs_ok {S : Option (Addr × List Int)} {n : Nat} {cs : List TC} {f : Addr} {tv : TK} {due : U} {vh : VH} {R : U → VH → Prop} {Z : XV} (hcs : ∀ c ∈ cs, okD 9 (.str c.lab) = true) (h : isK n cs tv due vh R) :
    tIs S n cs f (mo tv) ⟨fun _ vh' => RD R .non vh', RD R, fun _ _ => False, fun _ _ => False⟩ Z (startV 3 [.ref f, due]) vh := by
  obtain ⟨lab, du, rfl, ol, od, ht⟩ := h
  show getV (startV 3 [U.ref f, .tup [.str lab, du]]) 0 fun u => u = .ref f ∧ toldK (mo tv) cs _ vh
  refine ⟨rfl, ?_⟩
  have fin : ∀ (lb : Str) (u : U) (vh1 : VH), okD 9 (.str lb) = true → okD 9 u = true → RD R (.bl (lb == lab && likeU u du)) vh1 →
      (sSeq (sRet (vAndV (v2 S eqV' (v2 S ixV (vVar 2) (vC (.int 0))) (v2 S ixV (vVar 1) (vC (.int 0)))) (vCall (FLike n) 2 (vCons (v2 S ixV (vVar 2) (vC (.int 1))) (vCons (v2 S ixV (vVar 1) (vC (.int 1))) vNil))))) sNext)
        ⟨fun _ vh' => RD R .non vh', RD R, fun _ _ => False, fun _ _ => False⟩ Z ((startV 3 [U.ref f, .tup [.str lab, du]]).set 2 (some (.tup [.str lb, u]))) vh1 := by
    intro lb u vh1 o1 o2 r
    show okD 9 (.str lb) = true ∧ okD 9 (.str lab) = true ∧ _
    refine ⟨o1, ol, ?_⟩
    show (match U.bl (eqU (.str lb) (.str lab)) with
      | .bl true => _
      | .bl false => _
      | _ => False)
    have e : eqU (.str lb) (.str lab) = (lb == lab) := by simp [eqU]
    rw [e]
    cases hb : lb == lab with
    | true =>
      rw [hb, Bool.true_and] at r
      exact ⟨rfl, u, du, rfl, o2, od, r⟩
    | false =>
      rw [hb, Bool.false_and] at r
      exact r
  refine mo.imp (mo.of ht) (fun u vh1 ⟨o, r⟩ => ?_) (fun C fld v vh1 ⟨c, hc, hf, o, r⟩ => ?_)
  · exact .of (fin "is" u vh1 (by simp only [okD, PyData.canLay0]; decide +kernel) o r) (.refl _)
  · exact ⟨c, hc, hf, .of (fin c.lab v vh1 (hcs c (List.mem_of_find?_eq_some hc)) o r) (.refl _)⟩
/-- a lambda of the running def, and its reading -/
structure LamOk (X : Cx) (P : Pk) (k : Nat) (mk : Addr → Addr → Clo) (us : List U) (tb : TV) : Prop where
  thk : ∀ (pins : List (Addr × Obj)) (σ : L2.St) (H : Hp) (s : Shared) (Γ : EV) (f t c' : Addr), Inv X pins σ H s → RelG X.K H Γ σ → ThkV X.prog X.w X.K X.mg X.base P (frs X.stack) k s H f (tkOf f (mk t c') Γ us tb)
/-- a lambda of the running def, called at Y -/
structure LamAt (Y : Cx) (P : Pk) (k : Nat) (G : EV → EV) (mk : Addr → Addr → Clo) (us : List U) (tb : TV) : Prop where
  thk : ∀ (pins : List (Addr × Obj)) (σ : L2.St) (H : Hp) (s : Shared) (Γ : EV) (f t c' : Addr), Inv Y pins σ H s → RelG Y.K H Γ σ → ThkV Y.prog Y.w Y.K Y.mg Y.base P (frs Y.stack) k s H f (tkOf f (mk t c') (G Γ) us tb)
theorem LamOk.here {X : Cx} {P : Pk} {k : Nat} {mk : Addr → Addr → Clo} {us : List U} {tb : TV} (l : LamOk X P k mk us tb) : LamAt X P k (fun Γ => Γ) mk us tb := ⟨l.thk⟩
abbrev LamE := (Addr → Addr → Clo) × List U × TV
def vIs (n : Nat) (cs : List TC) (ls : List LamE) (G : EV → EV) (te1 te2 : TV) : TV := fun Γ vh R Z => te1 Γ vh (fun x vh1 => te2 Γ vh1 (fun due vh2 => ∃ f t c' m, m ∈ ls ∧ x = .ref f ∧ isK n cs (tkOf f (m.1 t c') (G Γ) m.2.1 m.2.2) due vh2 R) Z) Z
section
variable {X : Cx} {P : Pk} {E : XK} {k n : Nat} {g : Addr} {name qual x : Str} {params : Arguments} {body : List Stmt} {sc : Scope} {dV kV doc pm cdv ct oc : Value} {an od : Option Addr} {osl : Array (Option Value)} {N ps : List Str} {p pos : Pos} {cs : List TC} {ls : List LamE} {e1 e2 : Expr} {te1 te2 : TV}
theorem ve_is (lk : X.K.lookup g = some ⟨oc, od, .func (PySem.W.fnOf name qual params body sc dV kV doc pm an cdv ct), osl⟩) (hcd : PySem.W.codeIn X.K cdv qual = true) (S : FnScope N ps sc) (hN3 : N.length = 3) (hp2 : ps.length = 2) (hr : Room (k + 1) X.A) (hg : Gl X x) (hm : X.mg x = some (.ref g)) (hk : PySem.W.keepIn X.K (.ref g) = true)
    (hb : Binds X.K (PySem.W.fnOf name qual params body sc dV kV doc pm an cdv ct) ps []) (hx : PassV X E) (h1 : VE X P E e1 te1) (h2 : VE X P E e2 te2) {G : EV → EV} {jt : Nat} (hls : ∀ m ∈ ls, LamAt X P jt G m.1 m.2.1 m.2.2) (hcs : ∀ c ∈ cs, okD 9 (.str c.lab) = true)
    (hbody : ∀ (A : Around) (outer : List Env) (s : Shared) (H : Hp) (E : XK) (f : Addr) (tv : TK), Room k (A.deeper (envOfC qual sc s.heap.objs.size g cdv)) → ThkV X.prog X.w X.K X.mg X.base P (frs outer) jt s H f tv → (∀ vh R Z, tv vh R Z → ∃ F, vh f = some (cloF f F)) →
      VSs (cxV X.prog X.w X.K X.mg X.base N qual sc g cdv A outer s H E) P E body (tIs P.S n cs f tv))
    (hdb : (x == ("__debug__" : Str)) = false := by decide) (he : starEach [e1, e2] X.env = (false, PySem.eval e1 X.env) :: starEach [e2] X.env := by rfl) (he2 : starEach [e2] X.env = (false, PySem.eval e2 X.env) :: starEach [] X.env := by rfl) (hpl : (backTo pos (starEach [e2] X.env)).any (·.1) = false := by rfl) :
    VE X P E (.Call (.Name x p) [e1, e2] [] pos) (vIs n cs ls G te1 te2) := by
  have hA : VA X P E [e1, e2] (vCons te1 (vCons te2 vNil)) := va_cons h1 (va_cons h2 va_nil he2) he
  have key := ve_callS (p := p) (F := fun Γ us vh R _ => ∃ f t c' m due, m ∈ ls ∧ us = [.ref f, due] ∧ isK n cs (tkOf f (m.1 t c') (G Γ) m.2.1 m.2.2) due vh R) lk hcd S hr hg hm hk hb hx hA (fun pins σ H s Γ us vh R Z I gg hr' hl ⟨f, t, c', m, due, hm', eu, hi⟩ => ?_) hdb he hpl
  · refine PE.asks key fun σ H Q ⟨Γ, vh, R, Z, g, r, q, k', x'⟩ => ⟨Γ, vh, R, Z, g, r, ?_, k', x'⟩
    show te1 Γ vh (fun x vh1 => te2 Γ vh1 (fun due vh2 => [x, due].length = ps.length ∧ ∃ f t c' m due', m ∈ ls ∧ [x, due] = [.ref f, due'] ∧ isK n cs (tkOf f (m.1 t c') (G Γ) m.2.1 m.2.2) due' vh2 R) Z) Z
    have e : (fun (x : U) (vh1 : VH) => te2 Γ vh1 (fun due vh2 => [x, due].length = ps.length ∧ ∃ f t c' m due', m ∈ ls ∧ [x, due] = [U.ref f, due'] ∧ isK n cs (tkOf f (m.1 t c') (G Γ) m.2.1 m.2.2) due' vh2 R) Z) =
        fun x vh1 => te2 Γ vh1 (fun due vh2 => ∃ f t c' m, m ∈ ls ∧ x = .ref f ∧ isK n cs (tkOf f (m.1 t c') (G Γ) m.2.1 m.2.2) due vh2 R) Z := by
      funext x vh1
      congr 1
      funext due vh2
      apply propext
      constructor
      · rintro ⟨_, f, t, c', m, due', hm, ee, hi⟩
        injection ee with e1 e2
        injection e2 with e3 _
        subst e3
        exact ⟨f, t, c', m, hm, e1, hi⟩
      · rintro ⟨f, t, c', m, hm, rfl, hi⟩
        exact ⟨by rw [hp2]; rfl, f, t, c', m, due, hm, rfl, hi⟩
    rw [e]
    exact q
  · subst eu
    refine ⟨_, hbody X.A X.stack s H E f (mo (tkOf f (m.1 t c') (G Γ) m.2.1 m.2.2)) hr' ((hls m hm').thk pins σ H s Γ f t c' I gg).mo (fun vh R Z ⟨R0, Z0, h, _⟩ => ⟨_, h.1⟩), ?_⟩
    have := tIs_ok (S := P.S) (Z := ZD Z) (f := f) hcs hi
    rw [hN3]
    exact this
end
end VL

-- part E8
set_option Elab.async false
set_option linter.all false
set_option maxRecDepth 100000
set_option maxHeartbeats 4000000
/-! The end of a law row: the code tables of any defs. -/
namespace VL
open PySem PySem.Spec PyProof.Rows L2 LamX
open PySem.W (tabIn CodeHd tab_of)
theorem walk_ofTop {l : PySem.W.OpenLaw} {n k : Nat} {q : Program} {loose : List Str} {XP : (Str → Option Value) → Heap → Prop} {YP : World → Heap → Prop} {d : DefRec} {K : Params → PySem.W.Frag} {CX : World → CXT} {x : Str}
    (hn : l.most = some n) (hn2 : n ≤ sizeLine) (hdf : d.params.defaults = []) (hr : Room k callerA) (hY : ∀ (w : World) (h : Heap), YP w h → (K w.params).In h)
    (F : ∀ (w : World) (mg : Str → Option Value) (fa : Addr) (h : Heap), YP w h → (K w.params).In h → h.Ns mainGlobals mg → mg d.name = some (.ref fa) →
      (∀ (y : Str) (c P : Addr), ((recsOf q).find? fun e => e.name == y).isSome = true → tabIn (K w.params) y = some (c, P) → CodeHd h c P ∧ h.get? P = some { cls := .none, data := .fields #[] }) → LawAtS l w (K w.params) (CX w) k n x mg fa h)
    (hCX : ∀ (w : World) (H : Hp) (s : Shared) (e : Value) (s' : Shared), CX w [] H s (fun _ _ _ => False) e s' → False) :
    PySem.W.WalkO q loose XP YP l.row.toRowW d [] (fun f vs => PySem.call f vs) := by
  refine Att.attach_callB hn hdf fun w s₀ s₁ mg mb fa o pm cd doc a vs ns G Y ho hd hcd hmg hobj hints hlen hbits hg => ?_
  have KX := hY w _ Y
  obtain ⟨fd, cs, sp, hT, nT, C, hb, hsp, hF⟩ := F w mg fa _ Y KX G.T.g hmg fun y c P h1 h2 => by
    obtain ⟨dd, hdd⟩ := Option.isSome_iff_exists.mp h1
    exact tab_of G.T KX hdd h2
  exact law_callTs KX G.T.g G.T.b G.T.builtins G.T.nolimit hg hT nT C G.T.bmain hobj hints (Nat.le_trans hlen hn2) hr hF hb (fun H hH hS => hsp H a ns hlen hbits hH hS) fun H e s' => hCX w H s₁ e s'
theorem walk_V {l : PySem.W.OpenLaw} {k : Nat} {q : Program} {loose : List Str} {XP : (Str → Option Value) → Heap → Prop} {YP : World → Heap → Prop} {d : DefRec} {K : Params → PySem.W.Frag}
    (hn : l.most = some 63) (hdf : d.params.defaults = []) (hr : Room k callerA) (hY : ∀ (w : World) (h : Heap), YP w h → (K w.params).In h)
    (F : ∀ (w : World) (mg : Str → Option Value) (fa : Addr) (h : Heap), YP w h → (K w.params).In h → h.Ns mainGlobals mg → mg d.name = some (.ref fa) →
      (∀ (y : Str) (c P : Addr), ((recsOf q).find? fun e => e.name == y).isSome = true → tabIn (K w.params) y = some (c, P) → CodeHd h c P ∧ h.get? P = some { cls := .none, data := .fields #[] }) → LawAtS l w (K w.params) (L2.CX l.prog w) k 63 "script" mg fa h) :
    PySem.W.WalkO q loose XP YP l.row.toRowW d [] (fun f vs => PySem.call f vs) :=
  walk_ofTop (CX := fun w => L2.CX l.prog w) hn (by decide) hdf hr hY F fun w H s e s' z => by
    obtain ⟨_, _, _, _, _, _, _, _, _, _, _, _, z⟩ := z
    exact z
end VL

-- part V12
set_option Elab.async false
set_option linter.all false
set_option maxRecDepth 100000
set_option maxHeartbeats 4000000
/-! Layer V, part 12: wrappers for printed terms. -/
namespace VL
open PySem PySem.Spec PyProof.Rows L2
section
variable {X : Cx} {P : Pk} {E : XK}
theorem vv (i : Nat) {x : Str} {pos : Pos} (hN : X.N[i]? = some x := by rfl) (hv : Vis X.env.scope x := by first | exact Or.inl rfl | exact Or.inr (Or.inl rfl) | exact Or.inr (Or.inr rfl)) (hd : (x == ("__debug__" : Str)) = false := by decide)
    (hcd : (x == ("__classdict__" : Str)) = false := by decide) : VE X P E (.Name x pos) (vVar i) := ve_var hN hv hd hcd
/-- xs[::-1] -/
def vRev (S : Option (Addr × List Int)) (te : TV) : TV := fun Γ vh R Z => te Γ vh (fun x vh1 => match asL S vh1 x with
  | some us => newL vh1 us.reverse R
  | none => False) Z
theorem ve_rev {e : Expr} {te : TV} {k : Nat} {p1 p2 p3 pos : Pos} (he : VE X P E e te) : VE X P E (.Subscript e (.Slice none none (some (.UnaryOp .USub (.Constant (.int 1) k p1) p2)) p3) pos) (vRev P.S te) := by
  refine PE.asks (pe_revL he) fun σ H Q ⟨Γ, vh, R, Z, g, r, q, k', x⟩ => ⟨Γ, vh, _, Z, g, r, q, fun u vh1 q1 v H1 s1 r1 => ?_, x⟩
  split at q1
  · rename_i us e1
    obtain ⟨a, vs, rfl, s, qv⟩ := asL.sq s1.rel e1 r1
    exact ⟨a, vs, rfl, s, fun p n => newL.met s1.rel q1 qv.rev (fun u vh' h v H' st r => k' _ _ h _ _ (s1.trans st) r) n⟩
  · exact q1.elim
/-- name = [..] -/
theorem vs_lc {i : Nat} {y : Str} {py : Pos} {elt tg iter : Expr} {ifs : List Expr} {scope : Scope} {own : List (Str × Nat)} {ws : List Nat} {pos spos : Pos} {ti : TIV} {g : TGV} {tt : TVb} {te : TV} (hc : X.calm = true) (hN : X.N.Nodup) (hy : X.N[i]? = some y) (hyl : X.env.scope.names.lookup y = some .local) (hi : VI X P E tg iter ti) (ok : BlkOk X.N X.env.scope scope own)
    (hg : ∀ (s : Shared) (H : Hp) (C : Addr) (cl : List (Str × Addr)) (fp : List Addr), VGw (X.blk s H scope (compEnvC scope cl C X.env) fp) P ws tg g) (ht : ∀ (s : Shared) (H : Hp) (C : Addr) (cl : List (Str × Addr)) (fp : List Addr), VTs (X.blk s H scope (compEnvC scope cl C X.env) fp) P E0 ifs tt)
    (he : ∀ (s : Shared) (H : Hp) (C : Addr) (cl : List (Str × Addr)) (fp : List Addr), VE (X.blk s H scope (compEnvC scope cl C X.env) fp) P E0 elt te) (hs : ∀ x, foldedSetIterable iter X.env x = pure x := by intro _; rfl)
    (hsw : swapsWith (.ListComp elt [⟨tg, iter, ifs, 0⟩] scope pos) (some (.Name y py)) spos.line X.env = pure true := by rfl) (hw : own.map (·.2) = ws := by rfl) :
    VS X P E (.Assign [.Name y py] (.ListComp elt [⟨tg, iter, ifs, 0⟩] scope pos) spos) (sAsg (vLc ti g tt te ws) (gN i)) := by
  subst hw
  exact vs_setLc (ps_setLc hc hN hy hyl hsw hi ok hg ht he hs)
/-- x, y = a, b -/
theorem vs_par {i j : Nat} {x y : Str} {a b : Expr} {ta : TVa} {px py pt : Pos} {kt k2 : Nat} {pt2 pos : Pos} (hc : X.calm = true) (hN : X.N.Nodup) (hi : X.N[i]? = some x) (hj : X.N[j]? = some y) (hij : i ≠ j)
    (hx : X.env.scope.names.lookup x = some .local) (hy : X.env.scope.names.lookup y = some .local) (ha : VA X P E [a, b] ta)
    (hw : swappedStores [.Tuple [.Name x px, .Name y py] kt pt] (.Tuple [a, b] k2 pt2) X.env = pure (some [x, y]) := by rfl)
    (hs : swapsWithSole [.Tuple [.Name x px, .Name y py] kt pt] (.Tuple [a, b] k2 pt2) pos.line X.env = pure false := by rfl) :
    VS X P E (.Assign [.Tuple [.Name x px, .Name y py] kt pt] (.Tuple [a, b] k2 pt2) pos) (sPar i j ta) := PS.asks (ps_par hc hN hi hj hij hx hy ha hw hs) lA_par
end
section
variable {P : Program} {w : World} {K : PySem.W.Frag} {mg : Str → Option Value} {base : Heap} {Pd : Pk}
/-- THE RULE for a printed def -/
theorem ok_of {x qual : Str} {st : Stmt} {f : Addr} {fd : FuncData} {N ps : List Str} {k : Nat} {F : FV} (Fn : L2.Fun K x qual st f fd) (S : FnScope N ps (L2.defScope st))
    (hbody : ∀ (cdv : Value) (A : Around) (outer : List Env) (s : Shared) (H : Hp) (E : XK), Room k (A.deeper (envOfC qual (L2.defScope st) s.heap.objs.size f cdv)) → ∃ t, VSs (cxV P w K mg base N qual (L2.defScope st) f cdv A outer s H E) Pd E (L2.defBody st) t ∧ BodyV F N.length ps.length t) :
    FnOk P w K mg base (L2.CX P w) (k + 1) f fd ps (spV K Pd F ps.length) := by
  obtain ⟨oc, od, kV, doc, pm, an, cdv, ct, osl, rfl, lk, hcd⟩ := Fn.ex
  exact fnV_of lk hcd S fun A outer s H E hr => hbody cdv A outer s H E hr
theorem passC {N : List Str} {qual : Str} {scope : Scope} {f : Addr} {cdv : Value} {A : Around} {outer : List Env} {s : Shared} {H : Hp} {E : XK} : PassV (cxV P w K mg base N qual scope f cdv A outer s H E) E := pass_of takes_cxV
theorem ownC {N : List Str} {qual : Str} {scope : Scope} {f : Addr} {cdv : Value} {A : Around} {outer : List Env} {s : Shared} {H : Hp} {E : XK} : PassesOwn (model P w) (cxV P w K mg base N qual scope f cdv A outer s H E).A (cxV P w K mg base N qual scope f cdv A outer s H E).env (cxV P w K mg base N qual scope f cdv A outer s H E).xe := passes_of rfl
theorem hu65 {A : Around} {k : Nat} (hr : Room k A) : A.units + 65 < cLine := by have := hr.un; omega
end
end VL

-- part V13
set_option Elab.async false
set_option linter.all false
set_option maxRecDepth 100000
/-! Layer V, part 13: what is known of a def, of an exception class. -/
namespace VL
open PySem PySem.Spec PyProof.Rows L2
/-- what a caller wants of a def -/
structure DOk (P : Program) (w : World) (K : PySem.W.Frag) (mg : Str → Option Value) (base : Heap) (Pd : Pk) (k : Nat) (x : Str) (f : Addr) (fd : FuncData) (ps : List Str) (F : FV) : Prop where
  ok : FnOk P w K mg base (L2.CX P w) k f fd ps (spV K Pd F ps.length)
  at_ : mg x = some (.ref f)
  kp : PySem.W.keepIn K (.ref f) = true
  b : Binds K fd ps []
  kb : KB0 K fd ps ps
/-- what a raise wants of an exception class -/
structure XOk (P : Program) (w : World) (K : PySem.W.Frag) (mg : Str → Option Value) (x : Str) (C : Addr) (fld : Str) : Prop where
  at_ : mg x = some (.ref C)
  mak : ∀ {X : Cx} {k : Nat} {e : Expr} {te : TE} {p pos : Pos}, X.prog = P → X.w = w → X.K = K → X.mg = mg → Room (k + 1) X.A → Gl X x → PE X e te →
    (starEach [e] X.env = (false, PySem.eval e X.env) :: starEach [] X.env) → (backTo pos (starEach [] X.env)).any (·.1) = false → PMk X (.Call (.Name x p) [e] [] pos) (tMkS C fld te)
end VL

-- part B0
set_option Elab.async false
set_option linter.all false
set_option maxRecDepth 100000
/-! Plain laws, part 0: loops by the items that are left; comprehensions whose block changes nothing. -/
namespace VL
open PySem PySem.Spec PyProof.Rows L2
def LcB (I : ItV) (vh : VH) (Γ : EV) (g : TGV) (tt : TVb) (te : TV) (ws : List Nat) (R : U → VH → Prop) : Prop := ∃ W : Nat → List U → VH → Prop, W 0 [] vh ∧ ∀ i acc vh', W i acc vh' → acc.length ≤ i → I.ok vh' ∧ (i = I.items.length → newL vh' acc R) ∧
  ∀ u, I.items[i]? = some u → i < sizeLine ∧ g u (wipeV Γ ws) vh' (fun Γ2 vh2 => tt Γ2 vh2 (fun b vh3 => if b = true then te Γ2 vh3 (fun y vh4 => W (i + 1) (acc ++ [y]) vh4) Z0 else W (i + 1) acc vh3) Z0) Z0
theorem vLc_eq {ti : TIV} {g : TGV} {tt : TVb} {te : TV} {ws : List Nat} {Γ : EV} {vh : VH} {R : U → VH → Prop} {Z : XV} : vLc ti g tt te ws Γ vh R Z = ti Γ vh (fun I vh1 => LcB I vh1 Γ g tt te ws R) Z := rfl
def DcB (I : ItV) (vh : VH) (Γ : EV) (g : TGV) (tt : TVb) (tk tv : TV) (ws : List Nat) (R : U → VH → Prop) : Prop := ∃ W : Nat → List (Key × U) → VH → Prop, W 0 [] vh ∧ ∀ i acc vh', W i acc vh' → acc.length ≤ i → I.ok vh' ∧ (i = I.items.length → ∀ p, vh' p = none → R (.ref p) (vput vh' p (.dK acc))) ∧
  ∀ u, I.items[i]? = some u → i < sizeLine ∧ g u (wipeV Γ ws) vh' (fun Γ2 vh2 => tt Γ2 vh2 (fun b vh3 => if b = true then tk Γ2 vh3 (fun y vh4 => match keyU y with
    | some k => tv Γ2 vh4 (fun z vh5 => W (i + 1) (putU acc k z) vh5) Z0
    | none => False) Z0 else W (i + 1) acc vh3) Z0) Z0
def ForB (I : ItV) (g : TGV) (tb : TVs) (R : EndV) (Z : XV) (Γ : EV) (vh : VH) : Prop := ∃ W : Nat → EV → VH → Prop, W 0 Γ vh ∧ ∀ i Γ' vh', W i Γ' vh' → I.ok vh' ∧ (i = I.items.length → R.nx Γ' vh') ∧
  ∀ u, I.items[i]? = some u → g u Γ' vh' (fun Γ2 vh2 => tb { R with nx := W (i + 1), ct := W (i + 1), bk := R.nx } Z Γ2 vh2) Z
theorem sFor_eq {ti : TIV} {g : TGV} {tb : TVs} {R : EndV} {Z : XV} {Γ : EV} {vh : VH} : sFor ti g tb R Z Γ vh = ti Γ vh (fun I vh1 => ForB I g tb R Z Γ vh1) Z := rfl
def WhB (c : TVb) (tb : TVs) (R : EndV) (Z : XV) (Γ : EV) (vh : VH) : Prop := ∃ W : Nat → EV → VH → Prop, (∃ m, W m Γ vh) ∧ ∀ m Γ' vh', W m Γ' vh' →
  c Γ' vh' (fun b vh1 => if b = true then tb { R with nx := fun Γ2 vh2 => ∃ m', m' < m ∧ W m' Γ2 vh2, ct := fun Γ2 vh2 => ∃ m', m' < m ∧ W m' Γ2 vh2, bk := R.nx } Z Γ' vh1 else R.nx Γ' vh1) Z
theorem sWhile_eq {c : TVb} {tb : TVs} {R : EndV} {Z : XV} {Γ : EV} {vh : VH} : sWhile c tb R Z Γ vh = WhB c tb R Z Γ vh := rfl
theorem drop_get {α : Type} {l : List α} {i : Nat} {u : α} (h : l[i]? = some u) : l.drop i = u :: l.drop (i + 1) := by
  obtain ⟨hi, e⟩ := List.getElem?_eq_some_iff.1 h
  rw [List.drop_eq_getElem_cons hi, e]
/-- for: P by the items that are left -/
theorem ForB.of {I : ItV} {g : TGV} {tb : TVs} {R : EndV} {Z : XV} {Γ : EV} {vh : VH} (P : List U → EV → VH → Prop) (h0 : P I.items Γ vh) (ok : ∀ l Γ' vh', P l Γ' vh' → I.ok vh') (h1 : ∀ Γ' vh', P [] Γ' vh' → R.nx Γ' vh')
    (h2 : ∀ u us Γ' vh', (∃ pre, I.items = pre ++ u :: us) → P (u :: us) Γ' vh' → g u Γ' vh' (fun Γ2 vh2 => tb { R with nx := P us, ct := P us, bk := R.nx } Z Γ2 vh2) Z) : ForB I g tb R Z Γ vh := by
  refine ⟨fun i Γ' vh' => P (I.items.drop i) Γ' vh', by simpa using h0, fun i Γ' vh' h => ⟨ok _ _ _ h, fun e => h1 _ _ (by subst e; simpa using h), fun u e => ?_⟩⟩
  have d := drop_get e
  have h' : P (I.items.drop i) Γ' vh' := h
  rw [d] at h'
  exact h2 u _ Γ' vh' ⟨I.items.take i, by rw [← d]; simp⟩ h'
/-- a comprehension whose block changes nothing -/
theorem LcB.pure {I : ItV} {vh : VH} {Γ : EV} {g : TGV} {tt : TVb} {te : TV} {ws : List Nat} {R : U → VH → Prop} (f : U → Option U) (hok : I.ok vh) (hl : I.items.length ≤ sizeLine) (hR : newL vh (I.items.filterMap f) R)
    (hb : ∀ u, u ∈ I.items → ∀ (K : Option U → VH → Prop), K (f u) vh → g u (wipeV Γ ws) vh (fun Γ2 vh2 => tt Γ2 vh2 (fun b vh3 => if b = true then te Γ2 vh3 (fun y vh4 => K (some y) vh4) Z0 else K none vh3) Z0) Z0) : LcB I vh Γ g tt te ws R := by
  refine ⟨fun i acc vh' => vh' = vh ∧ acc = (I.items.take i).filterMap f, ⟨rfl, by simp⟩, fun i acc vh' ⟨h1, h2⟩ _ => ?_⟩
  subst h1
  refine ⟨hok, fun e => by subst e; rw [List.take_length] at h2; rw [h2]; exact hR, fun u e => ?_⟩
  obtain ⟨hi, e'⟩ := List.getElem?_eq_some_iff.1 e
  refine ⟨by omega, ?_⟩
  have := hb u (by rw [← e']; exact List.getElem_mem hi) (fun o v => v = vh' ∧ acc ++ o.toList = (I.items.take (i + 1)).filterMap f) ⟨rfl, by
    rw [List.take_succ, e, h2]
    simp [List.filterMap_append]
    cases hf : f u <;> simp [hf]⟩
  simpa using this
/-- a comprehension whose block leaves what is told -/
theorem LcB.sub {I : ItV} {vh : VH} {Γ : EV} {g : TGV} {tt : TVb} {te : TV} {ws : List Nat} {R : U → VH → Prop} (f : U → Option U) (hok : ∀ vh', SubH vh vh' → I.ok vh') (hl : I.items.length ≤ sizeLine) (hR : ∀ vh', SubH vh vh' → newL vh' (I.items.filterMap f) R)
    (hb : ∀ u, u ∈ I.items → ∀ vh', SubH vh vh' → ∀ (K : Option U → VH → Prop), (∀ vh2, SubH vh vh2 → K (f u) vh2) → g u (wipeV Γ ws) vh' (fun Γ2 vh2 => tt Γ2 vh2 (fun b vh3 => if b = true then te Γ2 vh3 (fun y vh4 => K (some y) vh4) Z0 else K none vh3) Z0) Z0) : LcB I vh Γ g tt te ws R := by
  refine ⟨fun i acc vh' => SubH vh vh' ∧ acc = (I.items.take i).filterMap f, ⟨.refl _, by simp⟩, fun i acc vh' ⟨h1, h2⟩ _ => ?_⟩
  refine ⟨hok _ h1, fun e => by subst e; rw [List.take_length] at h2; rw [h2]; exact hR _ h1, fun u e => ?_⟩
  obtain ⟨hi, e'⟩ := List.getElem?_eq_some_iff.1 e
  refine ⟨by omega, ?_⟩
  have := hb u (by rw [← e']; exact List.getElem_mem hi) vh' h1 (fun o v => SubH vh v ∧ acc ++ o.toList = (I.items.take (i + 1)).filterMap f) fun vh2 h3 => ⟨h3, by
    rw [List.take_succ, e, h2]
    simp [List.filterMap_append]
    cases hf : f u <;> simp [hf]⟩
  simpa using this
/-- a dict comprehension whose block leaves what is told -/
theorem DcB.sub {I : ItV} {vh : VH} {Γ : EV} {g : TGV} {tt : TVb} {tk tv : TV} {ws : List Nat} {R : U → VH → Prop} (f : U → Key × U) (hok : ∀ vh', SubH vh vh' → I.ok vh') (hl : I.items.length ≤ sizeLine)
    (hR : ∀ vh', SubH vh vh' → ∀ p, vh' p = none → R (.ref p) (vput vh' p (.dK (I.items.foldl (fun a u => putU a (f u).1 (f u).2) []))))
    (hb : ∀ u, u ∈ I.items → ∀ vh', SubH vh vh' → ∀ (K : Key → U → VH → Prop) (K0 : VH → Prop), (∀ vh2, SubH vh vh2 → K (f u).1 (f u).2 vh2) → g u (wipeV Γ ws) vh' (fun Γ2 vh2 => tt Γ2 vh2 (fun b vh3 => if b = true then tk Γ2 vh3 (fun y vh4 => match keyU y with
    | some k => tv Γ2 vh4 (fun z vh5 => K k z vh5) Z0
    | none => False) Z0 else K0 vh3) Z0) Z0) : DcB I vh Γ g tt tk tv ws R := by
  refine ⟨fun i acc vh' => SubH vh vh' ∧ acc = (I.items.take i).foldl (fun a u => putU a (f u).1 (f u).2) [], ⟨.refl _, by simp⟩, fun i acc vh' ⟨h1, h2⟩ _ => ?_⟩
  refine ⟨hok _ h1, fun e => by subst e; rw [List.take_length] at h2; rw [h2]; exact hR _ h1, fun u e => ?_⟩
  obtain ⟨hi, e'⟩ := List.getElem?_eq_some_iff.1 e
  refine ⟨by omega, ?_⟩
  exact hb u (by rw [← e']; exact List.getElem_mem hi) vh' h1 (fun k y v => SubH vh v ∧ putU acc k y = (I.items.take (i + 1)).foldl (fun a u => putU a (f u).1 (f u).2) []) _ fun vh2 h3 => ⟨h3, by
    rw [List.take_succ, e, h2]
    simp⟩
theorem vDc_eq {ti : TIV} {g : TGV} {tt : TVb} {tk tv : TV} {ws : List Nat} {Γ : EV} {vh : VH} {R : U → VH → Prop} {Z : XV} : vDc ti g tt tk tv ws Γ vh R Z = ti Γ vh (fun I vh1 => DcB I vh1 Γ g tt tk tv ws R) Z := rfl
@[simp] theorem asL_new {S : Option (Addr × List Int)} {vh : VH} {p : Addr} {us : List U} : asL S (vput vh p (.lst us)) (.ref p) = some us := by simp [asL, vput_same]
@[simp] theorem asSq_new {S : Option (Addr × List Int)} {vh : VH} {p : Addr} {us : List U} : asSq S (vput vh p (.lst us)) (.ref p) = some us := by simp [asSq, asL, vput_same]
@[simp] theorem asSq_dk {S : Option (Addr × List Int)} {vh : VH} {p : Addr} {us : List (Key × U)} : asSq S (vput vh p (.dK us)) (.ref p) = none := by simp [asSq, asL, vput_same]
@[simp] theorem asSq_tup {S : Option (Addr × List Int)} {vh : VH} {us : List U} : asSq S vh (.tup us) = some us := rfl
@[simp] theorem asSq_tupw {S : Option (Addr × List Int)} {vh : VH} {us : List U} : asSq S vh (.tupw us) = some us := rfl
@[simp] theorem asL_tup {S : Option (Addr × List Int)} {vh : VH} {us : List U} : asL S vh (.tup us) = none := rfl
@[simp] theorem ownL_new {vh : VH} {p : Addr} {us : List U} : ownL (vput vh p (.lst us)) (.ref p) = some (p, us) := by simp [ownL, vput_same]
theorem asL_of {S : Option (Addr × List Int)} {vh : VH} {p : Addr} {us : List U} (h : vh p = some (.lst us)) : asL S vh (.ref p) = some us := by simp [asL, h]
theorem asSq_of {S : Option (Addr × List Int)} {vh : VH} {p : Addr} {us : List U} (h : vh p = some (.lst us)) : asSq S vh (.ref p) = some us := by simp [asSq, asL, h]
theorem ownL_of {vh : VH} {p : Addr} {us : List U} (h : vh p = some (.lst us)) : ownL vh (.ref p) = some (p, us) := by simp [ownL, h]
@[simp] theorem eqR_ints {S : Option (Addr × List Int)} {vh : VH} {i j : Int} {k : Bool → Prop} : eqR S vh (.int i) (.int j) k = k (decide (i = j)) := by
  exact propext ⟨fun h => h.2.2, fun h => ⟨rfl, rfl, h⟩⟩
theorem SubH.no {a b : VH} {p : Addr} (h : SubH a b) (n : b p = none) : a p = none := by
  cases e : a p with
  | none => rfl
  | some c => rw [h _ _ e] at n; cases n
theorem SubH.put' {a b : VH} {p : Addr} {c : Cel} (h : SubH a b) (n : b p = none) : SubH a (vput b p c) := h.put (h.no n)
theorem eqR_lists {S : Option (Addr × List Int)} {vh : VH} {a b : Addr} {xs ys : List U} {k : Bool → Prop} (ha : asL S vh (.ref a) = some xs) (hb : asL S vh (.ref b) = some ys) (h1 : okDs 9 xs = true) (h2 : okDs 9 ys = true) (h : k (eqUs xs ys)) : eqR S vh (.ref a) (.ref b) k := by
  simp only [eqR, ha, hb]
  exact ⟨h1, h2, h⟩
theorem eqUs_nil {xs : List U} : eqUs xs [] = decide (xs = []) := by cases xs <;> simp [eqUs]
theorem putO {vh : VH} {p q : Addr} {c d : Cel} (h : vh q = some d) (n : vh p = none) : vput vh p c q = some d := by
  rw [vput_ne (fun z => by rw [z, n] at h; cases h)]; exact h
/-- for, over the pictures of l: P by what is done -/
theorem ForB.ofm {α : Type} {I : ItV} {g : TGV} {tb : TVs} {R : EndV} {Z : XV} {Γ : EV} {vh : VH} (l : List α) (h : α → U) (hI : I.items = l.map h) (ok : ∀ vh', I.ok vh') (P : List α → EV → VH → Prop) (h0 : P [] Γ vh) (h1 : ∀ Γ' vh', P l Γ' vh' → R.nx Γ' vh')
    (h2 : ∀ pre x suf Γ' vh', l = pre ++ x :: suf → P pre Γ' vh' → g (h x) Γ' vh' (fun Γ2 vh2 => tb { R with nx := P (pre ++ [x]), ct := P (pre ++ [x]), bk := R.nx } Z Γ2 vh2) Z) : ForB I g tb R Z Γ vh := by
  refine ⟨fun i Γ' vh' => P (l.take i) Γ' vh', by simpa using h0, fun i Γ' vh' w => ⟨ok _, fun e => h1 _ _ (by subst e; rw [hI, List.length_map] at w; simpa using w), fun u e => ?_⟩⟩
  rw [hI, List.getElem?_map] at e
  cases hx : l[i]? with
  | none => rw [hx] at e; cases e
  | some x =>
    rw [hx] at e
    cases e
    have d := drop_get hx
    have := h2 (l.take i) x (l.drop (i + 1)) Γ' vh' (by rw [← d]; simp) w
    simpa only [List.take_succ, hx, Option.toList] using this
/-- the same, the iterator kept by what P tells -/
theorem ForB.ofk {α : Type} {I : ItV} {g : TGV} {tb : TVs} {R : EndV} {Z : XV} {Γ : EV} {vh : VH} (l : List α) (h : α → U) (hI : I.items = l.map h) (P : List α → EV → VH → Prop) (ok : ∀ l Γ' vh', P l Γ' vh' → I.ok vh') (h0 : P [] Γ vh) (h1 : ∀ Γ' vh', P l Γ' vh' → R.nx Γ' vh')
    (h2 : ∀ pre x suf Γ' vh', l = pre ++ x :: suf → P pre Γ' vh' → g (h x) Γ' vh' (fun Γ2 vh2 => tb { R with nx := P (pre ++ [x]), ct := P (pre ++ [x]), bk := R.nx } Z Γ2 vh2) Z) : ForB I g tb R Z Γ vh := by
  refine ⟨fun i Γ' vh' => P (l.take i) Γ' vh', by simpa using h0, fun i Γ' vh' w => ⟨ok _ _ _ w, fun e => h1 _ _ (by subst e; rw [hI, List.length_map] at w; simpa using w), fun u e => ?_⟩⟩
  rw [hI, List.getElem?_map] at e
  cases hx : l[i]? with
  | none => rw [hx] at e; cases e
  | some x =>
    rw [hx] at e
    cases e
    have d := drop_get hx
    have := h2 (l.take i) x (l.drop (i + 1)) Γ' vh' (by rw [← d]; simp) w
    simpa only [List.take_succ, hx, Option.toList] using this
theorem LcB.subm {α : Type} {I : ItV} {vh : VH} {Γ : EV} {g : TGV} {tt : TVb} {te : TV} {ws : List Nat} {R : U → VH → Prop} (l : List α) (h : α → U) (f : α → Option U) (hI : I.items = l.map h) (hok : ∀ vh', SubH vh vh' → I.ok vh') (hl : l.length ≤ sizeLine)
    (hR : ∀ vh', SubH vh vh' → newL vh' (l.filterMap f) R)
    (hb : ∀ x, x ∈ l → ∀ vh', SubH vh vh' → ∀ (K : Option U → VH → Prop), (∀ vh2, SubH vh vh2 → K (f x) vh2) → g (h x) (wipeV Γ ws) vh' (fun Γ2 vh2 => tt Γ2 vh2 (fun b vh3 => if b = true then te Γ2 vh3 (fun y vh4 => K (some y) vh4) Z0 else K none vh3) Z0) Z0) : LcB I vh Γ g tt te ws R := by
  refine ⟨fun i acc vh' => SubH vh vh' ∧ acc = (l.take i).filterMap f, ⟨.refl _, by simp⟩, fun i acc vh' ⟨h1, h2⟩ _ => ?_⟩
  refine ⟨hok _ h1, fun e => by subst e; rw [hI, List.length_map, List.take_length] at h2; rw [h2]; exact hR _ h1, fun u e => ?_⟩
  rw [hI, List.getElem?_map] at e
  cases hx : l[i]? with
  | none => rw [hx] at e; cases e
  | some x =>
    rw [hx] at e
    cases e
    obtain ⟨hi, e'⟩ := List.getElem?_eq_some_iff.1 hx
    refine ⟨by omega, ?_⟩
    have := hb x (by rw [← e']; exact List.getElem_mem hi) vh' h1 (fun o v => SubH vh v ∧ acc ++ o.toList = (l.take (i + 1)).filterMap f) fun vh2 h3 => ⟨h3, by
      rw [List.take_succ, hx, h2]
      simp [List.filterMap_append]
      cases hf : f x <;> simp [hf]⟩
    simpa using this
end VL

-- part A1
set_option Elab.async false
set_option linter.all false
set_option maxRecDepth 100000
set_option maxHeartbeats 4000000
namespace K75
open PySem PySem.Spec PyProof.Rows L2 VL
def topS (i : Nat) : Stmt := PySem.Challenge.pw_pairedoff_k75_whole_steady_mates.main.body.getD i (.Pass ⟨0, 0, 0, 0⟩)
section
variable {P : Program} {w : World} {K : PySem.W.Frag} {mg : Str → Option Value} {base : Heap} {Pd : Pk}
abbrev s_is_number : Stmt := topS 5
theorem sc_is_number : FnScope ["thing"] ["thing"] (L2.defScope s_is_number) := ⟨rfl, rfl, rfl, by decide +kernel, rfl, by decide +kernel, by decide +kernel⟩
def t_is_number (S : Option (Addr × List Int)) : TVs :=
  (sSeq (sRet (vAndV (vIsi S "int" (vVar 0)) (vNotV (vIsi S "bool" (vVar 0)))))
    sNext)
theorem v_is_number (b_bool : mg "bool" = none) (b_int : mg "int" = none) (b_isinstance : mg "isinstance" = none) (cdv : Value) (f : Addr) (A : Around) (outer : List Env) (s : Shared) (H : Hp) (E : XK) (hr : Room 0 (A.deeper (envOfC "is_number" (L2.defScope s_is_number) s.heap.objs.size f cdv))) :
    VSs (cxV P w K mg base ["thing"] "is_number" (L2.defScope s_is_number) f cdv A outer s H E) Pd E (L2.defBody s_is_number) (t_is_number Pd.S) :=
  (vss_cons (vs_ret (ve_and (ve_isi (by rfl) b_isinstance (by rfl) b_int (by decide +kernel) (vv 0)) (ve_one (ve_not (ve_isi (by rfl) b_isinstance (by rfl) b_bool (by decide +kernel) (vv 0))))))
    vss_nil)
abbrev s_is_among : Stmt := topS 6
theorem sc_is_among : FnScope ["thing", "least", "most"] ["thing", "least", "most"] (L2.defScope s_is_among) := ⟨rfl, rfl, rfl, by decide +kernel, rfl, by decide +kernel, by decide +kernel⟩
def t_is_among (S : Option (Addr × List Int)) (F_is_number : FV) : TVs :=
  (sSeq (sRet (vAndV (vCall F_is_number 1 (vCons (vVar 0) vNil)) (vChain S leV leV (vVar 1) (vVar 0) (vVar 2))))
    sNext)
theorem v_is_among {f_is_number : Addr} {fd_is_number : FuncData} {F_is_number : FV} (o_is_number : DOk P w K mg base Pd 1 "is_number" f_is_number fd_is_number ["thing"] F_is_number) (cdv : Value) (f : Addr) (A : Around) (outer : List Env) (s : Shared) (H : Hp) (E : XK) (hr : Room 1 (A.deeper (envOfC "is_among" (L2.defScope s_is_among) s.heap.objs.size f cdv))) :
    VSs (cxV P w K mg base ["thing", "least", "most"] "is_among" (L2.defScope s_is_among) f cdv A outer s H E) Pd E (L2.defBody s_is_among) (t_is_among Pd.S F_is_number) :=
  (vss_cons (vs_ret (ve_and (ve_call o_is_number.ok (hr.mono (by decide)) (by rfl) o_is_number.at_ o_is_number.kp o_is_number.b passC (va_cons (vv 0) va_nil)) (ve_one (ve_chain c_le c_le (vv 1) (vv 0) (vv 2)))))
    vss_nil)
abbrev s_is_tuple_of : Stmt := topS 7
theorem sc_is_tuple_of : FnScope ["thing", "least", "most"] ["thing", "least", "most"] (L2.defScope s_is_tuple_of) := ⟨rfl, rfl, rfl, by decide +kernel, rfl, by decide +kernel, by decide +kernel⟩
def t_is_tuple_of (S : Option (Addr × List Int)) : TVs :=
  (sSeq (sRet (vAndV (vIsi S "tuple" (vVar 0)) (vChain S leV leV (vVar 1) (vCB S lenV (vCons (vVar 0) vNil)) (vVar 2))))
    sNext)
theorem v_is_tuple_of (b_isinstance : mg "isinstance" = none) (b_len : mg "len" = none) (b_tuple : mg "tuple" = none) (cdv : Value) (f : Addr) (A : Around) (outer : List Env) (s : Shared) (H : Hp) (E : XK) (hr : Room 0 (A.deeper (envOfC "is_tuple_of" (L2.defScope s_is_tuple_of) s.heap.objs.size f cdv))) :
    VSs (cxV P w K mg base ["thing", "least", "most"] "is_tuple_of" (L2.defScope s_is_tuple_of) f cdv A outer s H E) Pd E (L2.defBody s_is_tuple_of) (t_is_tuple_of Pd.S) :=
  (vss_cons (vs_ret (ve_and (ve_isi (by rfl) b_isinstance (by rfl) b_tuple (by decide +kernel) (vv 0)) (ve_one (ve_chain c_le c_le (vv 1) (ve_len (by rfl) b_len (va_cons (vv 0) va_nil)) (vv 2)))))
    vss_nil)
abbrev s_is_list_of : Stmt := topS 10
theorem sc_is_list_of : FnScope ["thing", "person", "many", "one"] ["thing", "person", "many"] (L2.defScope s_is_list_of) := ⟨rfl, rfl, rfl, by decide +kernel, rfl, by decide +kernel, by decide +kernel⟩
def t_is_list_of (S : Option (Addr × List Int)) (F_is_among F_is_tuple_of : FV) : TVs :=
  (sSeq (sIf (vOr (vNot (vTest (vCall F_is_tuple_of 3 (vCons (vVar 0) (vCons (vC (.int 0)) (vCons (v2 S (ints0V fun i j => .int (i - j)) (vVar 2) (vC (.int 1))) vNil)))))) (vNot (vTest (vCB S allV (vCons (vLc (iSq S (vVar 0)) (gN 3) vYes (vCall F_is_among 3 (vCons (vVar 3) (vCons (vC (.int 0)) (vCons (v2 S (ints0V fun i j => .int (i - j)) (vVar 2) (vC (.int 1))) vNil)))) [3]) vNil)))))
    (sSeq (sRet (vC (.bl false)))
    sNext)
    sNext)
    (sSeq (sRet (vAndV (v2 S (inV' true) (vVar 1) (vVar 0)) (v2 S eqV' (vCB S lenV (vCons (vDc (iSq S (vVar 0)) (gN 3) vYes (vVar 3) (vC (.bl true)) [3]) vNil)) (vCB S lenV (vCons (vVar 0) vNil)))))
    sNext))
theorem v_is_list_of {f_is_among : Addr} {fd_is_among : FuncData} {F_is_among : FV} (o_is_among : DOk P w K mg base Pd 2 "is_among" f_is_among fd_is_among ["thing", "least", "most"] F_is_among) {f_is_tuple_of : Addr} {fd_is_tuple_of : FuncData} {F_is_tuple_of : FV} (o_is_tuple_of : DOk P w K mg base Pd 1 "is_tuple_of" f_is_tuple_of fd_is_tuple_of ["thing", "least", "most"] F_is_tuple_of) (b_all : mg "all" = none) (b_len : mg "len" = none) (cdv : Value) (f : Addr) (A : Around) (outer : List Env) (s : Shared) (H : Hp) (E : XK) (hr : Room 2 (A.deeper (envOfC "is_list_of" (L2.defScope s_is_list_of) s.heap.objs.size f cdv))) :
    VSs (cxV P w K mg base ["thing", "person", "many", "one"] "is_list_of" (L2.defScope s_is_list_of) f cdv A outer s H E) Pd E (L2.defBody s_is_list_of) (t_is_list_of Pd.S F_is_among F_is_tuple_of) :=
  (vss_cons (vs_if (vt_w (vw_or (vt_not (vt_val (ve_call o_is_tuple_of.ok (hr.mono (by decide)) (by rfl) o_is_tuple_of.at_ o_is_tuple_of.kp o_is_tuple_of.b passC (va_cons (vv 0) (va_cons ve_int (va_cons (ve_sub (vv 2) ve_int) va_nil)))))) (vw_or1 (vt_not (vt_val (ve_all rfl (by rfl) b_all (va_cons (ve_lc (own := [("one", 3)]) rfl sc_is_list_of.nd (vi_sq (vv 0)) (blkOk_by (by rfl)) (fun _ _ _ _ _ => (vgw_name (i := 3) sc_is_list_of.nd rfl (.inl rfl) (by decide))) (fun _ _ _ _ _ => vts_nil) (fun _ _ _ _ _ => (ve_call o_is_among.ok (hr.mono (by decide)) (by rfl) o_is_among.at_ o_is_among.kp o_is_among.b pass0 (va_cons (vv 3) (va_cons ve_int (va_cons (ve_sub (vv 2) ve_int) va_nil)))))) va_nil)))))))
    (vss_cons (vs_ret ve_bl)
    vss_nil)
    vss_nil)
    (vss_cons (vs_ret (ve_and (ve_cmp (c_notIn (hu65 hr)) (vv 1) (vv 0)) (ve_one (ve_cmp (c_eq (hu65 hr)) (ve_len (by rfl) b_len (va_cons (ve_dc (own := [("one", 3)]) rfl sc_is_list_of.nd (vi_sq (vv 0)) (blkOk_by (by rfl)) (fun _ _ _ _ _ => (vgw_name (i := 3) sc_is_list_of.nd rfl (.inl rfl) (by decide))) (fun _ _ _ _ _ => vts_nil) (fun _ _ _ _ _ => (vv 3)) (fun _ _ _ _ _ => ve_bl)) va_nil)) (ve_len (by rfl) b_len (va_cons (vv 0) va_nil))))))
    vss_nil))
abbrev s_need_wishes : Stmt := topS 11
theorem sc_need_wishes : FnScope ["wishes", "person", "thing", "some", "other"] ["wishes"] (L2.defScope s_need_wishes) := ⟨rfl, rfl, rfl, by decide +kernel, rfl, by decide +kernel, by decide +kernel⟩
def t_need_wishes (S : Option (Addr × List Int)) (F_is_list_of F_is_tuple_of : FV) (c_BadList : Addr) : TVs :=
  (sSeq (sIf (vNot (vTest (vCall F_is_tuple_of 3 (vCons (vVar 0) (vCons (vC (.int 0)) (vCons (vC (.int 8)) vNil))))))
    (sSeq (sRaise c_BadList "place" (vC .non))
    sNext)
    sNext)
    (sSeq (sFor (iEn S (vCons (vVar 0) vNil)) (gTp (gCn (gN 1) (gCn (gN 2) gNl)))
    (sSeq (sIf (vNot (vTest (vCall F_is_list_of 3 (vCons (vVar 2) (vCons (vVar 1) (vCons (vCB S lenV (vCons (vVar 0) vNil)) vNil))))))
    (sSeq (sRaise c_BadList "place" (vVar 1))
    sNext)
    sNext)
    sNext))
    (sSeq (sFor (iEn S (vCons (vVar 0) vNil)) (gTp (gCn (gN 1) (gCn (gN 3) gNl)))
    (sSeq (sIf (vNot (vTest (vCB S allV (vCons (vLc (iSq S (vVar 3)) (gN 4) vYes (v2 S (inV' false) (vVar 1) (v2 S ixV (vVar 0) (vVar 4))) [4]) vNil))))
    (sSeq (sRaise c_BadList "place" (vC (.str "mutual")))
    sNext)
    sNext)
    sNext))
    (sSeq (sRet (vVar 0))
    sNext))))
theorem v_need_wishes {f_is_list_of : Addr} {fd_is_list_of : FuncData} {F_is_list_of : FV} (o_is_list_of : DOk P w K mg base Pd 3 "is_list_of" f_is_list_of fd_is_list_of ["thing", "person", "many"] F_is_list_of) {f_is_tuple_of : Addr} {fd_is_tuple_of : FuncData} {F_is_tuple_of : FV} (o_is_tuple_of : DOk P w K mg base Pd 1 "is_tuple_of" f_is_tuple_of fd_is_tuple_of ["thing", "least", "most"] F_is_tuple_of) {c_BadList : Addr} (o_BadList : XOk P w K mg "BadList" c_BadList "place") (b_all : mg "all" = none) (b_enumerate : mg "enumerate" = none) (b_len : mg "len" = none) {t_MOST_PEOPLE : Tok} (c_MOST_PEOPLE : True ∧ mg "MOST_PEOPLE" = some (.int 8 t_MOST_PEOPLE)) (cdv : Value) (f : Addr) (A : Around) (outer : List Env) (s : Shared) (H : Hp) (E : XK) (hr : Room 3 (A.deeper (envOfC "need_wishes" (L2.defScope s_need_wishes) s.heap.objs.size f cdv))) :
    VSs (cxV P w K mg base ["wishes", "person", "thing", "some", "other"] "need_wishes" (L2.defScope s_need_wishes) f cdv A outer s H E) Pd E (L2.defBody s_need_wishes) (t_need_wishes Pd.S F_is_list_of F_is_tuple_of c_BadList) :=
  (vss_cons (vs_if (vt_not (vt_val (ve_call o_is_tuple_of.ok (hr.mono (by decide)) (by rfl) o_is_tuple_of.at_ o_is_tuple_of.kp o_is_tuple_of.b passC (va_cons (vv 0) (va_cons ve_int (va_cons (ve_glob (v := .int 8) (u := .int 8) (by rfl) c_MOST_PEOPLE.2 ⟨_, rfl⟩ fun _ => rfl) va_nil))))))
    (vss_cons (vs_raise rfl takes_cxV (o_BadList.mak rfl rfl rfl rfl (hr.mono (by decide : 1 ≤ _)) (by rfl) ve_non (by rfl) (by rfl)))
    vss_nil)
    vss_nil)
    (vss_cons (vs_for ownC rfl (vi_enum (by rfl) b_enumerate (va_cons (vv 0) va_nil)) (vg_tup 2 rfl (vgs_cons (vg_name (i := 1) sc_need_wishes.nd rfl (.inr rfl)) (vgs_cons (vg_name (i := 2) sc_need_wishes.nd rfl (.inl rfl)) vgs_nil)) (gCn_len (gCn_len gNl_len)))
    (vss_cons (vs_if (vt_not (vt_val (ve_call o_is_list_of.ok (hr.mono (by decide)) (by rfl) o_is_list_of.at_ o_is_list_of.kp o_is_list_of.b passC (va_cons (vv 2) (va_cons (vv 1) (va_cons (ve_len (by rfl) b_len (va_cons (vv 0) va_nil)) va_nil))))))
    (vss_cons (vs_raise rfl takes_cxV (o_BadList.mak rfl rfl rfl rfl (hr.mono (by decide : 1 ≤ _)) (by rfl) (vv 1) (by rfl) (by rfl)))
    vss_nil)
    vss_nil)
    vss_nil))
    (vss_cons (vs_for ownC rfl (vi_enum (by rfl) b_enumerate (va_cons (vv 0) va_nil)) (vg_tup 2 rfl (vgs_cons (vg_name (i := 1) sc_need_wishes.nd rfl (.inr rfl)) (vgs_cons (vg_name (i := 3) sc_need_wishes.nd rfl (.inl rfl)) vgs_nil)) (gCn_len (gCn_len gNl_len)))
    (vss_cons (vs_if (vt_not (vt_val (ve_all rfl (by rfl) b_all (va_cons (ve_lc (own := [("other", 4)]) rfl sc_need_wishes.nd (vi_sq (vv 3)) (blkOk_by (by rfl)) (fun _ _ _ _ _ => (vgw_name (i := 4) sc_need_wishes.nd rfl (.inl rfl) (by decide))) (fun _ _ _ _ _ => vts_nil) (fun _ _ _ _ _ => (ve_cmp (c_in (hu65 hr)) (vv 1) (ve_ix (vv 0) (vv 4))))) va_nil))))
    (vss_cons (vs_raise rfl takes_cxV (o_BadList.mak rfl rfl rfl rfl (hr.mono (by decide : 1 ≤ _)) (by rfl) ve_str (by rfl) (by rfl)))
    vss_nil)
    vss_nil)
    vss_nil))
    (vss_cons (vs_ret (vv 0))
    vss_nil))))
abbrev s_rank_by : Stmt := topS 12
theorem sc_rank_by : FnScope ["wishes", "person", "other"] ["wishes", "person", "other"] (L2.defScope s_rank_by) := ⟨rfl, rfl, rfl, by decide +kernel, rfl, by decide +kernel, by decide +kernel⟩
def t_rank_by (S : Option (Addr × List Int)) : TVs :=
  (sSeq (sRet (vIf (vTest (v2 S neV' (vVar 2) (vVar 1))) (vIndex S (v2 S ixV (vVar 0) (vVar 1)) (vCons (vVar 2) vNil)) (vCB S lenV (vCons (v2 S ixV (vVar 0) (vVar 1)) vNil))))
    sNext)
theorem v_rank_by (b_len : mg "len" = none) (cdv : Value) (f : Addr) (A : Around) (outer : List Env) (s : Shared) (H : Hp) (E : XK) (hr : Room 0 (A.deeper (envOfC "rank_by" (L2.defScope s_rank_by) s.heap.objs.size f cdv))) :
    VSs (cxV P w K mg base ["wishes", "person", "other"] "rank_by" (L2.defScope s_rank_by) f cdv A outer s H E) Pd E (L2.defBody s_rank_by) (t_rank_by Pd.S) :=
  (vss_cons (vs_ret (ve_if (vt_cmp (c_ne (hu65 hr)) (vv 2) (vv 1)) (ve_index (hu65 hr) (ve_ix (vv 0) (vv 1)) (va_cons (vv 2) va_nil)) (ve_len (by rfl) b_len (va_cons (ve_ix (vv 0) (vv 1)) va_nil))))
    vss_nil)
abbrev s_mutual_pairs : Stmt := topS 13
theorem sc_mutual_pairs : FnScope ["wishes", "found", "person", "some", "other"] ["wishes"] (L2.defScope s_mutual_pairs) := ⟨rfl, rfl, rfl, by decide +kernel, rfl, by decide +kernel, by decide +kernel⟩
def t_mutual_pairs (S : Option (Addr × List Int)) : TVs :=
  (sSeq (sAsg (vLst vNil) (gN 1))
    (sSeq (sFor (iEn S (vCons (vVar 0) vNil)) (gTp (gCn (gN 2) (gCn (gN 3) gNl)))
    (sSeq (sDrop (vM S extendV (vVar 1) (vCons (vLc (iSq S (vVar 3)) (gN 4) (vTest (v2 S ltV (vVar 2) (vVar 4))) (vTup (vCons (vVar 2) (vCons (vVar 4) vNil))) [4]) vNil)))
    sNext))
    (sSeq (sRet (vCB S sortV (vCons (vVar 1) vNil)))
    sNext)))
theorem v_mutual_pairs (b_enumerate : mg "enumerate" = none) (b_sorted : mg "sorted" = none) (cdv : Value) (f : Addr) (A : Around) (outer : List Env) (s : Shared) (H : Hp) (E : XK) (hr : Room 0 (A.deeper (envOfC "mutual_pairs" (L2.defScope s_mutual_pairs) s.heap.objs.size f cdv))) :
    VSs (cxV P w K mg base ["wishes", "found", "person", "some", "other"] "mutual_pairs" (L2.defScope s_mutual_pairs) f cdv A outer s H E) Pd E (L2.defBody s_mutual_pairs) (t_mutual_pairs Pd.S) :=
  (vss_cons (vs_set (i := 1) sc_mutual_pairs.nd rfl (.inl rfl) (ve_lst va_nil))
    (vss_cons (vs_for ownC rfl (vi_enum (by rfl) b_enumerate (va_cons (vv 0) va_nil)) (vg_tup 2 rfl (vgs_cons (vg_name (i := 2) sc_mutual_pairs.nd rfl (.inr rfl)) (vgs_cons (vg_name (i := 3) sc_mutual_pairs.nd rfl (.inl rfl)) vgs_nil)) (gCn_len (gCn_len gNl_len)))
    (vss_cons (vs_expr (ve_extend (vv 1) (va_cons (ve_lc (own := [("other", 4)]) rfl sc_mutual_pairs.nd (vi_sq (vv 3)) (blkOk_by (by rfl)) (fun _ _ _ _ _ => (vgw_name (i := 4) sc_mutual_pairs.nd rfl (.inl rfl) (by decide))) (fun _ _ _ _ _ => (vts_one (vt_cmp c_lt (vv 2) (vv 4)))) (fun _ _ _ _ _ => (ve_tup (va_cons (vv 2) (va_cons (vv 4) va_nil))))) va_nil)))
    vss_nil))
    (vss_cons (vs_ret (ve_sorted (by rfl) b_sorted (va_cons (vv 1) va_nil)))
    vss_nil)))
abbrev s_would_break : Stmt := topS 14
theorem sc_would_break : FnScope ["wishes", "mates", "one", "other"] ["wishes", "mates", "one", "other"] (L2.defScope s_would_break) := ⟨rfl, rfl, rfl, by decide +kernel, rfl, by decide +kernel, by decide +kernel⟩
def t_would_break (S : Option (Addr × List Int)) (F_rank_by : FV) : TVs :=
  (sSeq (sIf (vTest (v2 S geV (vCall F_rank_by 3 (vCons (vVar 0) (vCons (vVar 2) (vCons (vVar 3) vNil)))) (vCall F_rank_by 3 (vCons (vVar 0) (vCons (vVar 2) (vCons (v2 S ixV (vVar 1) (vVar 2)) vNil))))))
    (sSeq (sRet (vC (.bl false)))
    sNext)
    sNext)
    (sSeq (sRet (v2 S ltV (vCall F_rank_by 3 (vCons (vVar 0) (vCons (vVar 3) (vCons (vVar 2) vNil)))) (vCall F_rank_by 3 (vCons (vVar 0) (vCons (vVar 3) (vCons (v2 S ixV (vVar 1) (vVar 3)) vNil))))))
    sNext))
theorem v_would_break {f_rank_by : Addr} {fd_rank_by : FuncData} {F_rank_by : FV} (o_rank_by : DOk P w K mg base Pd 1 "rank_by" f_rank_by fd_rank_by ["wishes", "person", "other"] F_rank_by) (cdv : Value) (f : Addr) (A : Around) (outer : List Env) (s : Shared) (H : Hp) (E : XK) (hr : Room 1 (A.deeper (envOfC "would_break" (L2.defScope s_would_break) s.heap.objs.size f cdv))) :
    VSs (cxV P w K mg base ["wishes", "mates", "one", "other"] "would_break" (L2.defScope s_would_break) f cdv A outer s H E) Pd E (L2.defBody s_would_break) (t_would_break Pd.S F_rank_by) :=
  (vss_cons (vs_if (vt_cmp c_ge (ve_call o_rank_by.ok (hr.mono (by decide)) (by rfl) o_rank_by.at_ o_rank_by.kp o_rank_by.b passC (va_cons (vv 0) (va_cons (vv 2) (va_cons (vv 3) va_nil)))) (ve_call o_rank_by.ok (hr.mono (by decide)) (by rfl) o_rank_by.at_ o_rank_by.kp o_rank_by.b passC (va_cons (vv 0) (va_cons (vv 2) (va_cons (ve_ix (vv 1) (vv 2)) va_nil)))))
    (vss_cons (vs_ret ve_bl)
    vss_nil)
    vss_nil)
    (vss_cons (vs_ret (ve_cmp c_lt (ve_call o_rank_by.ok (hr.mono (by decide)) (by rfl) o_rank_by.at_ o_rank_by.kp o_rank_by.b passC (va_cons (vv 0) (va_cons (vv 3) (va_cons (vv 2) va_nil)))) (ve_call o_rank_by.ok (hr.mono (by decide)) (by rfl) o_rank_by.at_ o_rank_by.kp o_rank_by.b passC (va_cons (vv 0) (va_cons (vv 3) (va_cons (ve_ix (vv 1) (vv 3)) va_nil))))))
    vss_nil))
abbrev s_blocks_by : Stmt := topS 15
theorem sc_blocks_by : FnScope ["wishes", "mates", "one", "other"] ["wishes", "mates"] (L2.defScope s_blocks_by) := ⟨rfl, rfl, rfl, by decide +kernel, rfl, by decide +kernel, by decide +kernel⟩
def t_blocks_by (S : Option (Addr × List Int)) (F_mutual_pairs F_would_break : FV) : TVs :=
  (sSeq (sRet (vLc (iSq S (vCall F_mutual_pairs 1 (vCons (vVar 0) vNil))) (gTp (gCn (gN 2) (gCn (gN 3) gNl))) (vTest (vCall F_would_break 4 (vCons (vVar 0) (vCons (vVar 1) (vCons (vVar 2) (vCons (vVar 3) vNil)))))) (vTup (vCons (vVar 2) (vCons (vVar 3) vNil))) [2, 3]))
    sNext)
theorem v_blocks_by {f_mutual_pairs : Addr} {fd_mutual_pairs : FuncData} {F_mutual_pairs : FV} (o_mutual_pairs : DOk P w K mg base Pd 1 "mutual_pairs" f_mutual_pairs fd_mutual_pairs ["wishes"] F_mutual_pairs) {f_would_break : Addr} {fd_would_break : FuncData} {F_would_break : FV} (o_would_break : DOk P w K mg base Pd 2 "would_break" f_would_break fd_would_break ["wishes", "mates", "one", "other"] F_would_break) (cdv : Value) (f : Addr) (A : Around) (outer : List Env) (s : Shared) (H : Hp) (E : XK) (hr : Room 2 (A.deeper (envOfC "blocks_by" (L2.defScope s_blocks_by) s.heap.objs.size f cdv))) :
    VSs (cxV P w K mg base ["wishes", "mates", "one", "other"] "blocks_by" (L2.defScope s_blocks_by) f cdv A outer s H E) Pd E (L2.defBody s_blocks_by) (t_blocks_by Pd.S F_mutual_pairs F_would_break) :=
  (vss_cons (vs_ret (ve_lc (own := [("one", 2), ("other", 3)]) rfl sc_blocks_by.nd (vi_sq (ve_call o_mutual_pairs.ok (hr.mono (by decide)) (by rfl) o_mutual_pairs.at_ o_mutual_pairs.kp o_mutual_pairs.b passC (va_cons (vv 0) va_nil))) (blkOk_by (by rfl)) (fun _ _ _ _ _ => (vgw_tup 2 rfl (vgsw_cons (vgw_name (i := 2) sc_blocks_by.nd rfl (.inl rfl) (by decide)) (vgsw_cons (vgw_name (i := 3) sc_blocks_by.nd rfl (.inl rfl) (by decide)) vgsw_nil)) (gCn_len (gCn_len gNl_len)))) (fun _ _ _ _ _ => (vts_one (vt_val (ve_call o_would_break.ok (hr.mono (by decide)) (by rfl) o_would_break.at_ o_would_break.kp o_would_break.b pass0 (va_cons (vv 0) (va_cons (vv 1) (va_cons (vv 2) (va_cons (vv 3) va_nil)))))))) (fun _ _ _ _ _ => (ve_tup (va_cons (vv 2) (va_cons (vv 3) va_nil))))))
    vss_nil)
abbrev s_ranks_by : Stmt := topS 16
theorem sc_ranks_by : FnScope ["wishes", "mates", "person", "other"] ["wishes", "mates"] (L2.defScope s_ranks_by) := ⟨rfl, rfl, rfl, by decide +kernel, rfl, by decide +kernel, by decide +kernel⟩
def t_ranks_by (S : Option (Addr × List Int)) (F_rank_by : FV) : TVs :=
  (sSeq (sRet (vLc (iEn S (vCons (vVar 1) vNil)) (gTp (gCn (gN 2) (gCn (gN 3) gNl))) vYes (vCall F_rank_by 3 (vCons (vVar 0) (vCons (vVar 2) (vCons (vVar 3) vNil)))) [2, 3]))
    sNext)
theorem v_ranks_by {f_rank_by : Addr} {fd_rank_by : FuncData} {F_rank_by : FV} (o_rank_by : DOk P w K mg base Pd 1 "rank_by" f_rank_by fd_rank_by ["wishes", "person", "other"] F_rank_by) (b_enumerate : mg "enumerate" = none) (cdv : Value) (f : Addr) (A : Around) (outer : List Env) (s : Shared) (H : Hp) (E : XK) (hr : Room 1 (A.deeper (envOfC "ranks_by" (L2.defScope s_ranks_by) s.heap.objs.size f cdv))) :
    VSs (cxV P w K mg base ["wishes", "mates", "person", "other"] "ranks_by" (L2.defScope s_ranks_by) f cdv A outer s H E) Pd E (L2.defBody s_ranks_by) (t_ranks_by Pd.S F_rank_by) :=
  (vss_cons (vs_ret (ve_lc (own := [("person", 2), ("other", 3)]) rfl sc_ranks_by.nd (vi_enum (by rfl) b_enumerate (va_cons (vv 1) va_nil)) (blkOk_by (by rfl)) (fun _ _ _ _ _ => (vgw_tup 2 rfl (vgsw_cons (vgw_name (i := 2) sc_ranks_by.nd rfl (.inl rfl) (by decide)) (vgsw_cons (vgw_name (i := 3) sc_ranks_by.nd rfl (.inl rfl) (by decide)) vgsw_nil)) (gCn_len (gCn_len gNl_len)))) (fun _ _ _ _ _ => vts_nil) (fun _ _ _ _ _ => (ve_call o_rank_by.ok (hr.mono (by decide)) (by rfl) o_rank_by.at_ o_rank_by.kp o_rank_by.b pass0 (va_cons (vv 0) (va_cons (vv 2) (va_cons (vv 3) va_nil)))))))
    vss_nil)
abbrev s_all_mates_by : Stmt := topS 18
theorem sc_all_mates_by : FnScope ["wishes", "found", "waiting", "some", "person", "later", "other"] ["wishes"] (L2.defScope s_all_mates_by) := ⟨rfl, rfl, rfl, by decide +kernel, rfl, by decide +kernel, by decide +kernel⟩
def t_all_mates_by (S : Option (Addr × List Int)) : TVs :=
  (sSeq (sPar 1 2 (vCons (vLst vNil) (vCons (vLst (vCons (vTup vNil) vNil)) vNil)))
    (sSeq (sWhile (vTest (v2 S neV' (vVar 2) (vLst vNil)))
    (sSeq (sAsg (vM0 S popV (vVar 2)) (gN 3))
    (sSeq (sAsg (vCB S lenV (vCons (vVar 3) vNil)) (gN 4))
    (sSeq (sIf (vTest (v2 S eqV' (vVar 4) (vCB S lenV (vCons (vVar 0) vNil))))
    (sSeq (sDrop (vM S appendV (vVar 1) (vCons (vVar 3) vNil)))
    sNext)
    (sSeq (sIf (vTest (v2 S (inV' false) (vVar 4) (vVar 3)))
    (sSeq (sDrop (vM S appendV (vVar 2) (vCons (v2 S addV (vVar 3) (vTup (vCons (vIndex S (vVar 3) (vCons (vVar 4) vNil)) vNil))) vNil)))
    sNext)
    (sSeq (sAsg (vLc (iSq S (v2 S ixV (vVar 0) (vVar 4))) (gN 6) (vAnd (vTest (v2 S gtV (vVar 6) (vVar 4))) (vTest (v2 S (inV' true) (vVar 6) (vVar 3)))) (vVar 6) [6]) (gN 5))
    (sSeq (sDrop (vM S extendV (vVar 2) (vCons (vLc (iSq S (v2 S addV (vVar 5) (vLst (vCons (vVar 4) vNil)))) (gN 6) vYes (v2 S addV (vVar 3) (vTup (vCons (vVar 6) vNil))) [6]) vNil)))
    sNext)))
    sNext))
    sNext))))
    (sSeq (sRet (vCB S sortV (vCons (vVar 1) vNil)))
    sNext)))
theorem v_all_mates_by (b_len : mg "len" = none) (b_sorted : mg "sorted" = none) (cdv : Value) (f : Addr) (A : Around) (outer : List Env) (s : Shared) (H : Hp) (E : XK) (hr : Room 0 (A.deeper (envOfC "all_mates_by" (L2.defScope s_all_mates_by) s.heap.objs.size f cdv))) :
    VSs (cxV P w K mg base ["wishes", "found", "waiting", "some", "person", "later", "other"] "all_mates_by" (L2.defScope s_all_mates_by) f cdv A outer s H E) Pd E (L2.defBody s_all_mates_by) (t_all_mates_by Pd.S) :=
  (vss_cons (vs_par (i := 1) (j := 2) rfl sc_all_mates_by.nd rfl rfl (by decide) rfl rfl (va_cons (ve_lst va_nil) (va_cons (ve_lst (va_cons (ve_tup va_nil) va_nil)) va_nil)))
    (vss_cons (vs_while ownC (vt_cmp (c_ne (hu65 hr)) (vv 2) (ve_lst va_nil))
    (vss_cons (vs_set (i := 3) sc_all_mates_by.nd rfl (.inr rfl) (ve_pop (vv 2)))
    (vss_cons (vs_set (i := 4) sc_all_mates_by.nd rfl (.inr rfl) (ve_len (by rfl) b_len (va_cons (vv 3) va_nil)))
    (vss_cons (vs_if (vt_cmp (c_eq (hu65 hr)) (vv 4) (ve_len (by rfl) b_len (va_cons (vv 0) va_nil)))
    (vss_cons (vs_expr (ve_append (vv 1) (va_cons (vv 3) va_nil)))
    vss_nil)
    (vss_cons (vs_if (vt_cmp (c_in (hu65 hr)) (vv 4) (vv 3))
    (vss_cons (vs_expr (ve_append (vv 2) (va_cons (ve_add (vv 3) (ve_tup (va_cons (ve_index (hu65 hr) (vv 3) (va_cons (vv 4) va_nil)) va_nil))) va_nil)))
    vss_nil)
    (vss_cons (vs_lc (i := 5) (own := [("other", 6)])  rfl sc_all_mates_by.nd rfl rfl (vi_sq (ve_ix (vv 0) (vv 4))) (blkOk_by (by rfl)) (fun _ _ _ _ _ => (vgw_name (i := 6) sc_all_mates_by.nd rfl (.inl rfl) (by decide))) (fun _ _ _ _ _ => (vts_one (vt_w (vw_and (vt_cmp c_gt (vv 6) (vv 4)) (vw_and1 (vt_cmp (c_notIn (hu65 hr)) (vv 6) (vv 3))))))) (fun _ _ _ _ _ => (vv 6)))
    (vss_cons (vs_expr (ve_extend (vv 2) (va_cons (ve_lc (own := [("other", 6)]) rfl sc_all_mates_by.nd (vi_sq (ve_add (vv 5) (ve_lst (va_cons (vv 4) va_nil)))) (blkOk_by (by rfl)) (fun _ _ _ _ _ => (vgw_name (i := 6) sc_all_mates_by.nd rfl (.inl rfl) (by decide))) (fun _ _ _ _ _ => vts_nil) (fun _ _ _ _ _ => (ve_add (vv 3) (ve_tup (va_cons (vv 6) va_nil))))) va_nil)))
    vss_nil)))
    vss_nil))
    vss_nil))))
    (vss_cons (vs_ret (ve_sorted (by rfl) b_sorted (va_cons (vv 1) va_nil)))
    vss_nil)))
abbrev s_all_steady_by : Stmt := topS 19
theorem sc_all_steady_by : FnScope ["wishes", "mates"] ["wishes"] (L2.defScope s_all_steady_by) := ⟨rfl, rfl, rfl, by decide +kernel, rfl, by decide +kernel, by decide +kernel⟩
def t_all_steady_by (S : Option (Addr × List Int)) (F_all_mates_by F_blocks_by : FV) : TVs :=
  (sSeq (sRet (vLc (iSq S (vCall F_all_mates_by 1 (vCons (vVar 0) vNil))) (gN 1) (vTest (v2 S eqV' (vCall F_blocks_by 2 (vCons (vVar 0) (vCons (vVar 1) vNil))) (vLst vNil))) (vVar 1) [1]))
    sNext)
theorem v_all_steady_by {f_all_mates_by : Addr} {fd_all_mates_by : FuncData} {F_all_mates_by : FV} (o_all_mates_by : DOk P w K mg base Pd 1 "all_mates_by" f_all_mates_by fd_all_mates_by ["wishes"] F_all_mates_by) {f_blocks_by : Addr} {fd_blocks_by : FuncData} {F_blocks_by : FV} (o_blocks_by : DOk P w K mg base Pd 3 "blocks_by" f_blocks_by fd_blocks_by ["wishes", "mates"] F_blocks_by) (cdv : Value) (f : Addr) (A : Around) (outer : List Env) (s : Shared) (H : Hp) (E : XK) (hr : Room 3 (A.deeper (envOfC "all_steady_by" (L2.defScope s_all_steady_by) s.heap.objs.size f cdv))) :
    VSs (cxV P w K mg base ["wishes", "mates"] "all_steady_by" (L2.defScope s_all_steady_by) f cdv A outer s H E) Pd E (L2.defBody s_all_steady_by) (t_all_steady_by Pd.S F_all_mates_by F_blocks_by) :=
  (vss_cons (vs_ret (ve_lc (own := [("mates", 1)]) rfl sc_all_steady_by.nd (vi_sq (ve_call o_all_mates_by.ok (hr.mono (by decide)) (by rfl) o_all_mates_by.at_ o_all_mates_by.kp o_all_mates_by.b passC (va_cons (vv 0) va_nil))) (blkOk_by (by rfl)) (fun _ _ _ _ _ => (vgw_name (i := 1) sc_all_steady_by.nd rfl (.inl rfl) (by decide))) (fun _ _ _ _ _ => (vts_one (vt_cmp (c_eq (hu65 hr)) (ve_call o_blocks_by.ok (hr.mono (by decide)) (by rfl) o_blocks_by.at_ o_blocks_by.kp o_blocks_by.b pass0 (va_cons (vv 0) (va_cons (vv 1) va_nil))) (ve_lst va_nil)))) (fun _ _ _ _ _ => (vv 1))))
    vss_nil)
abbrev s_all_steady : Stmt := topS 20
theorem sc_all_steady : FnScope ["wishes"] ["wishes"] (L2.defScope s_all_steady) := ⟨rfl, rfl, rfl, by decide +kernel, rfl, by decide +kernel, by decide +kernel⟩
def t_all_steady (S : Option (Addr × List Int)) (F_all_steady_by F_need_wishes : FV) : TVs :=
  (sSeq (sRet (vCB S tupleV (vCons (vCall F_all_steady_by 1 (vCons (vCall F_need_wishes 1 (vCons (vVar 0) vNil)) vNil)) vNil)))
    sNext)
theorem v_all_steady {f_all_steady_by : Addr} {fd_all_steady_by : FuncData} {F_all_steady_by : FV} (o_all_steady_by : DOk P w K mg base Pd 4 "all_steady_by" f_all_steady_by fd_all_steady_by ["wishes"] F_all_steady_by) {f_need_wishes : Addr} {fd_need_wishes : FuncData} {F_need_wishes : FV} (o_need_wishes : DOk P w K mg base Pd 4 "need_wishes" f_need_wishes fd_need_wishes ["wishes"] F_need_wishes) (b_tuple : mg "tuple" = none) (cdv : Value) (f : Addr) (A : Around) (outer : List Env) (s : Shared) (H : Hp) (E : XK) (hr : Room 4 (A.deeper (envOfC "all_steady" (L2.defScope s_all_steady) s.heap.objs.size f cdv))) :
    VSs (cxV P w K mg base ["wishes"] "all_steady" (L2.defScope s_all_steady) f cdv A outer s H E) Pd E (L2.defBody s_all_steady) (t_all_steady Pd.S F_all_steady_by F_need_wishes) :=
  (vss_cons (vs_ret (ve_tupleC (by rfl) b_tuple (va_cons (ve_call o_all_steady_by.ok (hr.mono (by decide)) (by rfl) o_all_steady_by.at_ o_all_steady_by.kp o_all_steady_by.b passC (va_cons (ve_call o_need_wishes.ok (hr.mono (by decide)) (by rfl) o_need_wishes.at_ o_need_wishes.kp o_need_wishes.b passC (va_cons (vv 0) va_nil)) va_nil)) va_nil)))
    vss_nil)
abbrev s_need_some_steady : Stmt := topS 21
theorem sc_need_some_steady : FnScope ["wishes", "found"] ["wishes"] (L2.defScope s_need_some_steady) := ⟨rfl, rfl, rfl, by decide +kernel, rfl, by decide +kernel, by decide +kernel⟩
def t_need_some_steady (S : Option (Addr × List Int)) (F_all_steady_by : FV) (c_NoSuch : Addr) : TVs :=
  (sSeq (sAsg (vCall F_all_steady_by 1 (vCons (vVar 0) vNil)) (gN 1))
    (sSeq (sIf (vTest (v2 S eqV' (vVar 1) (vLst vNil)))
    (sSeq (sRaise c_NoSuch "value" (vC (.str "steady")))
    sNext)
    sNext)
    (sSeq (sRet (vVar 1))
    sNext)))
theorem v_need_some_steady {f_all_steady_by : Addr} {fd_all_steady_by : FuncData} {F_all_steady_by : FV} (o_all_steady_by : DOk P w K mg base Pd 4 "all_steady_by" f_all_steady_by fd_all_steady_by ["wishes"] F_all_steady_by) {c_NoSuch : Addr} (o_NoSuch : XOk P w K mg "NoSuch" c_NoSuch "value") (cdv : Value) (f : Addr) (A : Around) (outer : List Env) (s : Shared) (H : Hp) (E : XK) (hr : Room 4 (A.deeper (envOfC "need_some_steady" (L2.defScope s_need_some_steady) s.heap.objs.size f cdv))) :
    VSs (cxV P w K mg base ["wishes", "found"] "need_some_steady" (L2.defScope s_need_some_steady) f cdv A outer s H E) Pd E (L2.defBody s_need_some_steady) (t_need_some_steady Pd.S F_all_steady_by c_NoSuch) :=
  (vss_cons (vs_set (i := 1) sc_need_some_steady.nd rfl (.inl rfl) (ve_call o_all_steady_by.ok (hr.mono (by decide)) (by rfl) o_all_steady_by.at_ o_all_steady_by.kp o_all_steady_by.b passC (va_cons (vv 0) va_nil)))
    (vss_cons (vs_if (vt_cmp (c_eq (hu65 hr)) (vv 1) (ve_lst va_nil))
    (vss_cons (vs_raise rfl takes_cxV (o_NoSuch.mak rfl rfl rfl rfl (hr.mono (by decide : 1 ≤ _)) (by rfl) ve_str (by rfl) (by rfl)))
    vss_nil)
    vss_nil)
    (vss_cons (vs_ret (vv 1))
    vss_nil)))
abbrev s_always_alone : Stmt := topS 22
theorem sc_always_alone : FnScope ["wishes", "mates", "person", "other"] ["wishes"] (L2.defScope s_always_alone) := ⟨rfl, rfl, rfl, by decide +kernel, rfl, by decide +kernel, by decide +kernel⟩
def t_always_alone (S : Option (Addr × List Int)) (F_need_some_steady F_need_wishes : FV) : TVs :=
  (sSeq (sAsg (v2 S ixV (vCall F_need_some_steady 1 (vCons (vCall F_need_wishes 1 (vCons (vVar 0) vNil)) vNil)) (vC (.int 0))) (gN 1))
    (sSeq (sRet (vCB S tupleV (vCons (vLc (iEn S (vCons (vVar 1) vNil)) (gTp (gCn (gN 2) (gCn (gN 3) gNl))) (vTest (v2 S eqV' (vVar 2) (vVar 3))) (vVar 2) [2, 3]) vNil)))
    sNext))
theorem v_always_alone {f_need_some_steady : Addr} {fd_need_some_steady : FuncData} {F_need_some_steady : FV} (o_need_some_steady : DOk P w K mg base Pd 5 "need_some_steady" f_need_some_steady fd_need_some_steady ["wishes"] F_need_some_steady) {f_need_wishes : Addr} {fd_need_wishes : FuncData} {F_need_wishes : FV} (o_need_wishes : DOk P w K mg base Pd 4 "need_wishes" f_need_wishes fd_need_wishes ["wishes"] F_need_wishes) (b_enumerate : mg "enumerate" = none) (b_tuple : mg "tuple" = none) (cdv : Value) (f : Addr) (A : Around) (outer : List Env) (s : Shared) (H : Hp) (E : XK) (hr : Room 5 (A.deeper (envOfC "always_alone" (L2.defScope s_always_alone) s.heap.objs.size f cdv))) :
    VSs (cxV P w K mg base ["wishes", "mates", "person", "other"] "always_alone" (L2.defScope s_always_alone) f cdv A outer s H E) Pd E (L2.defBody s_always_alone) (t_always_alone Pd.S F_need_some_steady F_need_wishes) :=
  (vss_cons (vs_set (i := 1) sc_always_alone.nd rfl (.inl rfl) (ve_ix (ve_call o_need_some_steady.ok (hr.mono (by decide)) (by rfl) o_need_some_steady.at_ o_need_some_steady.kp o_need_some_steady.b passC (va_cons (ve_call o_need_wishes.ok (hr.mono (by decide)) (by rfl) o_need_wishes.at_ o_need_wishes.kp o_need_wishes.b passC (va_cons (vv 0) va_nil)) va_nil)) ve_int))
    (vss_cons (vs_ret (ve_tupleC (by rfl) b_tuple (va_cons (ve_lc (own := [("person", 2), ("other", 3)]) rfl sc_always_alone.nd (vi_enum (by rfl) b_enumerate (va_cons (vv 1) va_nil)) (blkOk_by (by rfl)) (fun _ _ _ _ _ => (vgw_tup 2 rfl (vgsw_cons (vgw_name (i := 2) sc_always_alone.nd rfl (.inl rfl) (by decide)) (vgsw_cons (vgw_name (i := 3) sc_always_alone.nd rfl (.inl rfl) (by decide)) vgsw_nil)) (gCn_len (gCn_len gNl_len)))) (fun _ _ _ _ _ => (vts_one (vt_cmp (c_eq (hu65 hr)) (vv 2) (vv 3)))) (fun _ _ _ _ _ => (vv 2))) va_nil)))
    vss_nil))
end
end K75

-- part B1
set_option Elab.async false
set_option linter.all false
set_option maxRecDepth 100000
set_option maxHeartbeats 1000000
/-! Plain laws, part 1. -/
namespace K75
open PySem PySem.Spec PyProof.Rows L2 VL
abbrev SS := Option (Addr × List Int)
/-- its type is told -/
def Kn (S : SS) (vh : VH) (u : U) : Prop := ∃ n, tyU S vh u = some n ∧ (n = "NoneType" ∨ n = "bool" ∨ n = "int" ∨ n = "str" ∨ n = "tuple" ∨ n = "list" ∨ n = "dict")
theorem Kn.sub {S : SS} {a b : VH} {u : U} (s : SubH a b) (h : Kn S a u) : Kn S b u := by
  obtain ⟨n, h1, h2⟩ := h
  refine ⟨n, ?_, h2⟩
  cases u <;> try exact h1
  rename_i p
  simp only [tyU] at h1 ⊢
  cases e : a p with
  | none => rw [e] at h1; cases h1
  | some c => rw [s _ _ e]; rw [e] at h1; exact h1
def isI : U → Bool | .int _ => true | _ => false
def amongU (a b : Int) : U → Bool | .int i => decide (a ≤ i) && decide (i ≤ b) | _ => false
def itemsU : U → List U | .tup us => us | .tupw us => us | _ => []
def isT : U → Bool | .tup _ => true | .tupw _ => true | _ => false
def tupOf (a b : Int) (u : U) : Bool := isT u && (decide (a ≤ (itemsU u).length) && decide (((itemsU u).length : Int) ≤ b))
def F_is_number (S : SS) : FV := fun us vh R _ => ∃ u, us = [u] ∧ Kn S vh u ∧ R (.bl (isI u)) vh
def F_is_among (S : SS) : FV := fun us vh R _ => ∃ u a b, us = [u, .int a, .int b] ∧ Kn S vh u ∧ R (.bl (amongU a b u)) vh
def F_is_tuple_of (S : SS) : FV := fun us vh R _ => ∃ u a b, us = [u, .int a, .int b] ∧ Kn S vh u ∧ R (.bl (tupOf a b u)) vh
theorem f_is_number {S : SS} {u : U} {vh : VH} {R : U → VH → Prop} {Z : XV} : F_is_number S [u] vh R Z = (Kn S vh u ∧ R (.bl (isI u)) vh) := by simp [F_is_number]
theorem f_is_among {S : SS} {u : U} {a b : Int} {vh : VH} {R : U → VH → Prop} {Z : XV} : F_is_among S [u, .int a, .int b] vh R Z = (Kn S vh u ∧ R (.bl (amongU a b u)) vh) := propext ⟨fun ⟨u, a, b, e, h⟩ => by cases e; exact h, fun h => ⟨_, _, _, rfl, h⟩⟩
theorem f_is_tuple_of {S : SS} {u : U} {a b : Int} {vh : VH} {R : U → VH → Prop} {Z : XV} : F_is_tuple_of S [u, .int a, .int b] vh R Z = (Kn S vh u ∧ R (.bl (tupOf a b u)) vh) := propext ⟨fun ⟨u, a, b, e, h⟩ => by cases e; exact h, fun h => ⟨_, _, _, rfl, h⟩⟩
theorem kit_int (n : String) (h : n = "NoneType" ∨ n = "bool" ∨ n = "int" ∨ n = "str" ∨ n = "tuple" ∨ n = "list" ∨ n = "dict") : kitB n "int" = some (decide (n = "bool" ∨ n = "int")) := by
  rcases h with h | h | h | h | h | h | h <;> subst h <;> decide +kernel
theorem kit_bool (n : String) (h : n = "NoneType" ∨ n = "bool" ∨ n = "int" ∨ n = "str" ∨ n = "tuple" ∨ n = "list" ∨ n = "dict") : kitB n "bool" = some (decide (n = "bool")) := by
  rcases h with h | h | h | h | h | h | h <;> subst h <;> decide +kernel
theorem kit_tuple (n : String) (h : n = "NoneType" ∨ n = "bool" ∨ n = "int" ∨ n = "str" ∨ n = "tuple" ∨ n = "list" ∨ n = "dict") : kitB n "tuple" = some (decide (n = "tuple")) := by
  rcases h with h | h | h | h | h | h | h <;> subst h <;> decide +kernel
theorem tyU_isI {S : SS} {vh : VH} {u : U} {n : String} (h : tyU S vh u = some n) : isI u = decide (n = "int") := by
  cases u with
  | ref a =>
    simp only [tyU] at h
    split at h <;> cases h <;> simp [isI, isT]
  | _ => cases h <;> simp [isI, isT]
theorem tyU_isT {S : SS} {vh : VH} {u : U} {n : String} (h : tyU S vh u = some n) : isT u = decide (n = "tuple") := by
  cases u with
  | ref a =>
    simp only [tyU] at h
    split at h <;> cases h <;> simp [isI, isT]
  | _ => cases h <;> simp [isI, isT]
theorem b_is_number {S : SS} : BodyV (F_is_number S) 1 1 (t_is_number S) := by
  rintro _ vh R Z _ ⟨u, rfl, ⟨n, h1, h2⟩, r⟩
  rw [tyU_isI h1] at r
  simp [t_is_number, ltV, leV, gtV, geV, sumV, maxV, minV, allV, anyV, sortV, sNext, sSeq, sNever, sBreak, sDrop, sRet, sRetN, sIf, gN, gNl, gCn, gTp, gSb, sAsg, sPar, vVar, vC, vNil, vCons, vTup, vLst, v2, addV, intsV, ints0V, mulV, vNeg, eqV', neV', inV', isV, VL.isNon, vTest, vChain, vAnd, vOr, vNot, vAndV, vOrV, vNotV, vIf, ixV, vNo, vPart, vSl, sliceV, vLc_eq, vDc_eq, sFor_eq, sWhile_eq, iSq, iRg1, iRg2, iEn, iZp, vCB, lenV, listV, tupleV, intV1, absV1, ofInts, ofBls, two, vIsi, vM, vM0, appendV, extendV, popV, popAtV, vIndex, vDnew, vCall, sRaise, vYes, vRev, getV, startV, wipeV, h1, kit_int n h2, kit_bool n h2]
  rcases h2 with h | h | h | h | h | h | h <;> subst h <;> simpa using RD.of r (.refl _)
theorem b_is_among {S : SS} : BodyV (F_is_among S) 3 3 (t_is_among S (F_is_number S)) := by
  rintro us vh R Z hl ⟨u, a, b, rfl, h, r⟩
  clear hl
  simp [t_is_among, ltV, leV, gtV, geV, sumV, maxV, minV, allV, anyV, sortV, sNext, sSeq, sNever, sBreak, sDrop, sRet, sRetN, sIf, gN, gNl, gCn, gTp, gSb, sAsg, sPar, vVar, vC, vNil, vCons, vTup, vLst, v2, addV, intsV, ints0V, mulV, vNeg, eqV', neV', inV', isV, VL.isNon, vTest, vChain, vAnd, vOr, vNot, vAndV, vOrV, vNotV, vIf, ixV, vNo, vPart, vSl, sliceV, vLc_eq, vDc_eq, sFor_eq, sWhile_eq, iSq, iRg1, iRg2, iEn, iZp, vCB, lenV, listV, tupleV, intV1, absV1, ofInts, ofBls, two, vIsi, vM, vM0, appendV, extendV, popV, popAtV, vIndex, vDnew, vCall, sRaise, vYes, vRev, getV, startV, wipeV, f_is_number, h]
  cases u with
  | int i =>
    simp only [isI, amongU] at r ⊢
    by_cases z : a ≤ i <;> simpa [z] using RD.of r (.refl _)
  | _ => exact RD.of r (.refl _)
theorem b_is_tuple_of {S : SS} : BodyV (F_is_tuple_of S) 3 3 (t_is_tuple_of S) := by
  rintro us vh R Z hl ⟨u, a, b, rfl, ⟨n, h1, h2⟩, r⟩
  clear hl
  have e := tyU_isT h1
  simp [t_is_tuple_of, ltV, leV, gtV, geV, sumV, maxV, minV, allV, anyV, sortV, sNext, sSeq, sNever, sBreak, sDrop, sRet, sRetN, sIf, gN, gNl, gCn, gTp, gSb, sAsg, sPar, vVar, vC, vNil, vCons, vTup, vLst, v2, addV, intsV, ints0V, mulV, vNeg, eqV', neV', inV', isV, VL.isNon, vTest, vChain, vAnd, vOr, vNot, vAndV, vOrV, vNotV, vIf, ixV, vNo, vPart, vSl, sliceV, vLc_eq, vDc_eq, sFor_eq, sWhile_eq, iSq, iRg1, iRg2, iEn, iZp, vCB, lenV, listV, tupleV, intV1, absV1, ofInts, ofBls, two, vIsi, vM, vM0, appendV, extendV, popV, popAtV, vIndex, vDnew, vCall, sRaise, vYes, vRev, getV, startV, wipeV, asSq, h1, kit_tuple n h2]
  by_cases z : n = "tuple"
  · simp [z] at e ⊢
    cases u with
    | tup us =>
      simp [itemsU, tupOf, isT] at r ⊢
      by_cases y : a ≤ us.length <;> simp [y] at r ⊢ <;> exact RD.of r (.refl _)
    | tupw us =>
      simp [itemsU, tupOf, isT] at r ⊢
      by_cases y : a ≤ us.length <;> simp [y] at r ⊢ <;> exact RD.of r (.refl _)
    | _ => cases e
  · simp [z] at e ⊢
    simp [tupOf, e] at r
    exact RD.of r (.refl _)

theorem okDs_ints (k : Nat) (ns : List Int) : okDs k (ns.map U.int) = true := by
  induction ns with
  | nil => simp [okDs]
  | cons n ns ih => cases k <;> simp_all [okDs, okD]
theorem inU_ints (i : Int) (ns : List Int) : inU (.int i) (ns.map U.int) = decide (i ∈ ns) := by
  induction ns with
  | nil => simp [inU]
  | cons n ns ih =>
    simp only [inU, List.map_cons, List.any_cons] at ih ⊢
    rw [ih]
    by_cases h : n = i
    · subst h; simp [VL.eqU]
    · simp [VL.eqU, h, Ne.symm h]
theorem among_ints {a b : Int} {us : List U} (h : us.all (amongU a b) = true) : ∃ ns : List Int, us = ns.map U.int ∧ ∀ i ∈ ns, a ≤ i ∧ i ≤ b := by
  induction us with
  | nil => exact ⟨[], rfl, by simp⟩
  | cons u us ih =>
    simp only [List.all_cons, Bool.and_eq_true] at h
    obtain ⟨ns, rfl, hn⟩ := ih h.2
    cases u with
    | int i => exact ⟨i :: ns, rfl, by simpa [amongU] using ⟨by simpa [amongU] using h.1, hn⟩⟩
    | _ => simp [amongU] at h
/-- the keys of a display by putU -/
def keysN (acc : List (Key × U)) : List Int → List (Key × U) := fun ns => ns.foldl (fun a n => putU a (.inl n) (.bl true)) acc
theorem putU_in {acc : List (Key × U)} {k : Key} {v : U} (h : k ∈ acc.map (·.1)) : (putU acc k v).length = acc.length ∧ (putU acc k v).map (·.1) = acc.map (·.1) := by
  unfold putU
  have e : (acc.any fun kv => decide (kv.1 = k)) = true := by
    obtain ⟨x, hx, rfl⟩ := List.mem_map.1 h
    exact List.any_eq_true.2 ⟨x, hx, by simp⟩
  rw [if_pos e]
  refine ⟨by simp, ?_⟩
  rw [List.map_map]
  congr 1
  funext x
  simp only [Function.comp]
  split <;> rfl
theorem putU_out {acc : List (Key × U)} {k : Key} {v : U} (h : k ∉ acc.map (·.1)) : (putU acc k v).length = acc.length + 1 ∧ (putU acc k v).map (·.1) = acc.map (·.1) ++ [k] := by
  unfold putU
  have e : ¬ (acc.any fun kv => decide (kv.1 = k)) = true := by
    intro z
    obtain ⟨x, hx, e⟩ := List.any_eq_true.1 z
    exact h (List.mem_map.2 ⟨x, hx, by simpa using e⟩)
  rw [if_neg e]
  simp
theorem keysN_le (ns : List Int) : ∀ acc, (keysN acc ns).length ≤ acc.length + ns.length := by
  induction ns with
  | nil => intro acc; simp [keysN]
  | cons n ns ih =>
    intro acc
    have := ih (putU acc (.inl n) (.bl true))
    simp only [keysN, List.foldl_cons, List.length_cons] at this ⊢
    by_cases h : (Sum.inl n : Key) ∈ acc.map (·.1)
    · have := (putU_in (v := .bl true) h).1; omega
    · have := (putU_out (v := .bl true) h).1; omega
theorem keysN_nd (ns : List Int) : ∀ acc, ((keysN acc ns).length = acc.length + ns.length ↔ ns.Nodup ∧ ∀ n ∈ ns, (Sum.inl n : Key) ∉ acc.map (·.1)) := by
  induction ns with
  | nil => intro acc; simp [keysN]
  | cons n ns ih =>
    intro acc
    have i := ih (putU acc (.inl n) (.bl true))
    have l := keysN_le ns (putU acc (.inl n) (.bl true))
    have e : keysN acc (n :: ns) = keysN (putU acc (.inl n) (.bl true)) ns := rfl
    rw [e]
    by_cases h : (Sum.inl n : Key) ∈ acc.map (·.1)
    · have h2 := (putU_in (v := .bl true) h).1
      constructor
      · intro z; simp only [List.length_cons] at z; omega
      · intro z; exact absurd h (z.2 n (by simp))
    · obtain ⟨h2, h3⟩ := putU_out (v := .bl true) h
      rw [h3, h2] at i
      rw [List.length_cons, show acc.length + (ns.length + 1) = acc.length + 1 + ns.length from by omega, i]
      simp only [List.nodup_cons, List.mem_append, List.mem_cons, List.not_mem_nil, or_false, not_or]
      constructor
      · rintro ⟨a, b⟩
        refine ⟨⟨fun z => (b n z).2 rfl, a⟩, fun m hm => ?_⟩
        rcases hm with rfl | hm
        · exact h
        · exact (b m hm).1
      · rintro ⟨⟨a1, a⟩, b⟩
        refine ⟨a, fun m hm => ⟨b m (.inr hm), fun z => ?_⟩⟩
        cases z
        exact a1 hm
def intsU (us : List U) : List Int := us.filterMap fun u => match u with | .int i => some i | _ => none
theorem intsU_map (ns : List Int) : intsU (ns.map U.int) = ns := by
  induction ns with
  | nil => rfl
  | cons n ns ih => simpa [intsU] using ih
def listOf (p m : Int) (u : U) : Bool := tupOf 0 (m - 1) u && ((itemsU u).all (amongU 0 (m - 1)) && (!inU (.int p) (itemsU u) && decide (intsU (itemsU u)).Nodup))
def F_is_list_of (S : SS) : FV := fun us vh R _ => ∃ u p m, us = [u, .int p, .int m] ∧ m ≤ 1000 ∧ Kn S vh u ∧ (∀ x ∈ itemsU u, Kn S vh x) ∧ R (.bl (listOf p m u)) vh
theorem asSq_isT {S : SS} {vh : VH} {u : U} (h : isT u = true) : asSq S vh u = some (itemsU u) := by
  cases u <;> simp [isT] at h <;> rfl
theorem blsOf_bl (bs : List Bool) : blsOf (bs.map U.bl) = some bs := blsOf_map bs
theorem b_is_list_of {S : SS} : BodyV (F_is_list_of S) 4 3 (t_is_list_of S (F_is_among S) (F_is_tuple_of S)) := by
  rintro us vh R Z hl ⟨u, p_1, m, rfl, hm, ku, ks, r⟩
  clear hl
  by_cases ht : tupOf 0 (m - 1) u = true
  · have hT : isT u = true := by simp [tupOf] at ht; exact ht.1
    have hlen : (itemsU u).length ≤ sizeLine := by
      simp [tupOf] at ht
      have : (1000 : Nat) ≤ sizeLine := by decide
      omega
    simp [t_is_list_of, ltV, leV, gtV, geV, sumV, maxV, minV, allV, anyV, sortV, sNext, sSeq, sNever, sBreak, sDrop, sRet, sRetN, sIf, gN, gNl, gCn, gTp, gSb, sAsg, sPar, vVar, vC, vNil, vCons, vTup, vLst, v2, addV, intsV, ints0V, mulV, vNeg, eqV', neV', inV', isV, VL.isNon, vTest, vChain, vAnd, vOr, vNot, vAndV, vOrV, vNotV, vIf, ixV, vNo, vPart, vSl, sliceV, vLc_eq, vDc_eq, sFor_eq, sWhile_eq, iSq, iRg1, iRg2, iEn, iZp, vCB, lenV, listV, tupleV, intV1, absV1, ofInts, ofBls, two, vIsi, vM, vM0, appendV, extendV, popV, popAtV, vIndex, vDnew, vCall, sRaise, vYes, vRev, getV, startV, wipeV, f_is_tuple_of, ku, ht, asSq_isT hT]
    refine LcB.sub (fun x => some (.bl (amongU 0 (m - 1) x))) (fun _ _ => trivial) hlen (fun vh' s' p hp => ?_) fun x hx vh' s' K hK => ?_
    · have e1 : (List.filterMap (fun x => some (U.bl (amongU 0 (m - 1) x))) (itemsU u)) = (((itemsU u).map (amongU 0 (m - 1))).map U.bl) := by simp
      rw [e1, asL_new]
      have hs : SubH vh (vput vh' p (.lst (((itemsU u).map (amongU 0 (m - 1))).map U.bl))) := s'.put' hp
      generalize vput vh' p (.lst (((itemsU u).map (amongU 0 (m - 1))).map U.bl)) = vh2 at *
      simp only [blsOf_bl]
      have e2 : (false ∈ (itemsU u).map (amongU 0 (m - 1))) = ¬ (itemsU u).all (amongU 0 (m - 1)) = true := by simp
      by_cases ha : (itemsU u).all (amongU 0 (m - 1)) = true
      · obtain ⟨ns, hns, hr⟩ := among_ints ha
        rw [hns] at ha e2
        rw [hns] at hlen ⊢
        rw [List.length_map] at hlen
        have hl : listOf p_1 m u = (!decide (p_1 ∈ ns) && decide ns.Nodup) := by
          simp only [listOf, ht, ha, hns, inU_ints, intsU_map, Bool.true_and]
        rw [hl] at r
        rw [if_neg (by rw [e2]; simp [ha])]
        simp only [okDs_ints, okD, inU_ints, true_and]
        by_cases hp : p_1 ∈ ns
        · simp [hp] at r ⊢
          exact RD.of r hs
        · simp [hp] at r ⊢
          refine DcB.sub (fun x => (.inl (intsU [x]).head!, .bl true)) (fun _ _ => trivial) (by simpa using hlen) (fun vh3 s3 q hq => ?_) fun x hx vh3 s3 K K0 hK => ?_
          · have e4 : List.foldl (fun a u => putU a ((fun x => ((.inl (intsU [x]).head!, .bl true) : Key × U)) u).1 ((fun x => ((.inl (intsU [x]).head!, .bl true) : Key × U)) u).2) [] (ns.map U.int) = keysN [] ns := by
              unfold keysN
              rw [List.foldl_map]
              rfl
            have e5 := keysN_nd ns []
            simp at e5
            simp only [hns] at e4 ⊢
            rw [e4, asSq_dk]
            simp only [vput_same, List.length_map]
            have : decide (((keysN [] ns).length : Int) = (ns.length : Int)) = decide ns.Nodup := by
              rw [decide_eq_decide, ← e5]; omega
            rw [this]
            exact RD.of r ((hs.trans s3).put' hq)
          · simp only [hns] at hx
            obtain ⟨i, _, rfl⟩ := List.mem_map.1 hx
            simp [ltV, leV, gtV, geV, sumV, maxV, minV, allV, anyV, sortV, sNext, sSeq, sNever, sBreak, sDrop, sRet, sRetN, sIf, gN, gNl, gCn, gTp, gSb, sAsg, sPar, vVar, vC, vNil, vCons, vTup, vLst, v2, addV, intsV, ints0V, mulV, vNeg, eqV', neV', inV', isV, VL.isNon, vTest, vChain, vAnd, vOr, vNot, vAndV, vOrV, vNotV, vIf, ixV, vNo, vPart, vSl, sliceV, vLc_eq, vDc_eq, sFor_eq, sWhile_eq, iSq, iRg1, iRg2, iEn, iZp, vCB, lenV, listV, tupleV, intV1, absV1, ofInts, ofBls, two, vIsi, vM, vM0, appendV, extendV, popV, popAtV, vIndex, vDnew, vCall, sRaise, vYes, vRev, getV, startV, wipeV, keyU]
            exact hK _ s3
      · rw [if_pos (by rw [e2]; exact ha)]
        simp [listOf, ht, ha] at r
        exact RD.of r hs
    · simp [ltV, leV, gtV, geV, sumV, maxV, minV, allV, anyV, sortV, sNext, sSeq, sNever, sBreak, sDrop, sRet, sRetN, sIf, gN, gNl, gCn, gTp, gSb, sAsg, sPar, vVar, vC, vNil, vCons, vTup, vLst, v2, addV, intsV, ints0V, mulV, vNeg, eqV', neV', inV', isV, VL.isNon, vTest, vChain, vAnd, vOr, vNot, vAndV, vOrV, vNotV, vIf, ixV, vNo, vPart, vSl, sliceV, vLc_eq, vDc_eq, sFor_eq, sWhile_eq, iSq, iRg1, iRg2, iEn, iZp, vCB, lenV, listV, tupleV, intV1, absV1, ofInts, ofBls, two, vIsi, vM, vM0, appendV, extendV, popV, popAtV, vIndex, vDnew, vCall, sRaise, vYes, vRev, getV, startV, wipeV, f_is_among, (ks x hx).sub s']
      exact hK _ s'
  · simp [t_is_list_of, ltV, leV, gtV, geV, sumV, maxV, minV, allV, anyV, sortV, sNext, sSeq, sNever, sBreak, sDrop, sRet, sRetN, sIf, gN, gNl, gCn, gTp, gSb, sAsg, sPar, vVar, vC, vNil, vCons, vTup, vLst, v2, addV, intsV, ints0V, mulV, vNeg, eqV', neV', inV', isV, VL.isNon, vTest, vChain, vAnd, vOr, vNot, vAndV, vOrV, vNotV, vIf, ixV, vNo, vPart, vSl, sliceV, vLc_eq, vDc_eq, sFor_eq, sWhile_eq, iSq, iRg1, iRg2, iEn, iZp, vCB, lenV, listV, tupleV, intV1, absV1, ofInts, ofBls, two, vIsi, vM, vM0, appendV, extendV, popV, popAtV, vIndex, vDnew, vCall, sRaise, vYes, vRev, getV, startV, wipeV, f_is_tuple_of, ku, ht]
    simp [listOf, ht] at r
    exact RD.of r (.refl _)
end K75

-- part B2
set_option Elab.async false
set_option linter.all false
set_option maxRecDepth 100000
set_option maxHeartbeats 1000000
/-! Plain laws, part 2: need_wishes. -/
namespace K75
open PySem PySem.Spec PyProof.Rows L2 VL
theorem f_is_list_of {S : SS} {u : U} {p m : Int} {vh : VH} {R : U → VH → Prop} {Z : XV} : F_is_list_of S [u, .int p, .int m] vh R Z = (m ≤ 1000 ∧ Kn S vh u ∧ (∀ x ∈ itemsU u, Kn S vh x) ∧ R (.bl (listOf p m u)) vh) := propext ⟨fun ⟨u, a, b, e, h⟩ => by cases e; exact h, fun h => ⟨_, _, _, rfl, h⟩⟩
theorem at_nat {us : List U} {i : Int} (h0 : 0 ≤ i) (h : i < us.length) : L2.atI us i = us[i.toNat]? := by
  unfold L2.atI ixN
  simp [h0, h]
def mutOf (items : List U) (p : Int) (x : U) : Bool := (intsU (itemsU x)).all fun o => inU (.int p) (itemsU (items.getD o.toNat .non))
def badU (u : U) : Option U := if tupOf 0 8 u = true then (match (itemsU u).zipIdx.find? (fun q => !listOf (q.2 : Nat) ((itemsU u).length : Nat) q.1) with
    | some q => some (.int (q.2 : Nat))
    | none => if (itemsU u).zipIdx.all (fun q => mutOf (itemsU u) (q.2 : Nat) q.1) = true then none else some (.str "mutual")) else some .non
def F_need_wishes (S : SS) (c : Addr) : FV := fun us vh R Z => ∃ u, us = [u] ∧ Kn S vh u ∧ (tupOf 0 8 u = true → ∀ x ∈ itemsU u, Kn S vh x ∧ ∀ y ∈ itemsU x, Kn S vh y) ∧ (badU u = none → R u vh) ∧ ∀ pl, badU u = some pl → Z c "place" pl vh
abbrev tw (q : U × Nat) : U := .tupw [.int (q.2 : Nat), q.1]
theorem enumU_eq (us : List U) : enumU us = us.zipIdx.map tw := rfl
theorem zip_mem {us : List U} {q : U × Nat} (h : q ∈ us.zipIdx) : us[q.2]? = some q.1 := by
  simpa using List.mem_zipIdx_iff_getElem?.1 h
theorem find_pre {pre suf : List (U × Nat)} {q : U × Nat} {f : U × Nat → Bool} (h : ∀ r ∈ pre, f r = false) (hq : f q = true) : (pre ++ q :: suf).find? f = some q := by
  rw [List.find?_append, List.find?_eq_none.2 (by simpa using h)]
  simp [hq]
theorem b_need_wishes {S : SS} {c : Addr} : BodyV (F_need_wishes S c) 5 1 (t_need_wishes S (F_is_list_of S) (F_is_tuple_of S) c) := by
  rintro us vh R Z hl ⟨u, rfl, ku, ks, r, z⟩
  clear hl
  by_cases ht : tupOf 0 8 u = true
  · have hT : isT u = true := by simp [tupOf] at ht; exact ht.1
    have ks := ks ht
    have h8 : (itemsU u).length ≤ 8 := by simp [tupOf] at ht; omega
    simp [t_need_wishes, ltV, leV, gtV, geV, sumV, maxV, minV, allV, anyV, sortV, sNext, sSeq, sNever, sBreak, sDrop, sRet, sRetN, sIf, gN, gNl, gCn, gTp, gSb, sAsg, sPar, vVar, vC, vNil, vCons, vTup, vLst, v2, addV, intsV, ints0V, mulV, vNeg, eqV', neV', inV', isV, VL.isNon, vTest, vChain, vAnd, vOr, vNot, vAndV, vOrV, vNotV, vIf, ixV, vNo, vPart, vSl, sliceV, vLc_eq, vDc_eq, sFor_eq, sWhile_eq, iSq, iRg1, iRg2, iEn, iZp, vCB, lenV, listV, tupleV, intV1, absV1, ofInts, ofBls, two, vIsi, vM, vM0, appendV, extendV, popV, popAtV, vIndex, vDnew, vCall, sRaise, vYes, vRev, getV, startV, wipeV, f_is_tuple_of, ku, ht, asSq_isT hT]
    refine ForB.of (fun l Γ vh' => SubH vh vh' ∧ (∃ a b c d, Γ = [some u, a, b, c, d]) ∧ ∃ pre suf, (itemsU u).zipIdx = pre ++ suf ∧ l = suf.map tw ∧ ∀ q ∈ pre, listOf (q.2 : Nat) ((itemsU u).length : Nat) q.1 = true)
      ⟨.refl _, ⟨_, _, _, _, rfl⟩, [], _, rfl, rfl, by simp⟩ (fun _ _ _ _ => ?_) (fun Γ' vh' ⟨s', ⟨a, b, c1, d, hΓ⟩, pre, suf, e1, e2, e3⟩ => ?_) fun w ws Γ' vh' hpre ⟨s', ⟨a, b, c1, d, hΓ⟩, pre, suf, e1, e2, e3⟩ => ?_
    · trivial
    · have hs0 : suf = [] := by cases suf with
        | nil => rfl
        | cons _ _ => cases e2
      subst hs0
      simp only [List.append_nil] at e1
      subst e1
      subst hΓ
      have hall : ∀ q ∈ (itemsU u).zipIdx, listOf (q.2 : Nat) ((itemsU u).length : Nat) q.1 = true := e3
      have hnone : (itemsU u).zipIdx.find? (fun q => !listOf (q.2 : Nat) ((itemsU u).length : Nat) q.1) = none := List.find?_eq_none.2 fun q hq => by simp [hall q hq]
      have hb : badU u = if (itemsU u).zipIdx.all (fun q => mutOf (itemsU u) (q.2 : Nat) q.1) = true then none else some (.str "mutual") := by rw [badU, if_pos ht, hnone]
      have hint : ∀ q ∈ (itemsU u).zipIdx, isT q.1 = true ∧ ∃ ns : List Int, itemsU q.1 = ns.map U.int ∧ ∀ i ∈ ns, 0 ≤ i ∧ i < (itemsU u).length := fun q hq => by
        have h := hall q hq
        simp only [listOf, Bool.and_eq_true] at h
        obtain ⟨ns, e, b⟩ := among_ints h.2.1
        refine ⟨by have := h.1; simp [tupOf] at this; exact this.1, ns, e, fun i hi => ⟨(b i hi).1, by have := (b i hi).2; omega⟩⟩
      have hgt : ∀ o : Int, 0 ≤ o → o < (itemsU u).length → ∃ q ∈ (itemsU u).zipIdx, (itemsU u)[o.toNat]? = some q.1 := fun o h0 h1 => by
        have h : o.toNat < (itemsU u).length := by omega
        exact ⟨((itemsU u)[o.toNat], o.toNat), List.mem_zipIdx_iff_getElem?.2 (by simp [h]), by simp [h]⟩
      simp [ltV, leV, gtV, geV, sumV, maxV, minV, allV, anyV, sortV, sNext, sSeq, sNever, sBreak, sDrop, sRet, sRetN, sIf, gN, gNl, gCn, gTp, gSb, sAsg, sPar, vVar, vC, vNil, vCons, vTup, vLst, v2, addV, intsV, ints0V, mulV, vNeg, eqV', neV', inV', isV, VL.isNon, vTest, vChain, vAnd, vOr, vNot, vAndV, vOrV, vNotV, vIf, ixV, vNo, vPart, vSl, sliceV, vLc_eq, vDc_eq, sFor_eq, sWhile_eq, iSq, iRg1, iRg2, iEn, iZp, vCB, lenV, listV, tupleV, intV1, absV1, ofInts, ofBls, two, vIsi, vM, vM0, appendV, extendV, popV, popAtV, vIndex, vDnew, vCall, sRaise, vYes, vRev, getV, startV, wipeV, asSq_isT hT]
      refine ForB.of (fun l Γ vh' => SubH vh vh' ∧ (∃ a b c d, Γ = [some u, a, b, c, d]) ∧ ∃ pre suf, (itemsU u).zipIdx = pre ++ suf ∧ l = suf.map tw ∧ ∀ q ∈ pre, mutOf (itemsU u) (q.2 : Nat) q.1 = true)
        ⟨s', ⟨_, _, _, _, rfl⟩, [], _, rfl, rfl, by simp⟩ (fun _ _ _ _ => ?_) (fun Γ' vh' ⟨s', ⟨a, b, c1, d, hΓ⟩, pre, suf, e1, e2, e3⟩ => ?_) fun w ws Γ' vh' hpre ⟨s', ⟨a, b, c1, d, hΓ⟩, pre, suf, e1, e2, e3⟩ => ?_
      · trivial
      · have hs0 : suf = [] := by cases suf with
          | nil => rfl
          | cons _ _ => cases e2
        subst hs0
        subst hΓ
        simp [ltV, leV, gtV, geV, sumV, maxV, minV, allV, anyV, sortV, sNext, sSeq, sNever, sBreak, sDrop, sRet, sRetN, sIf, gN, gNl, gCn, gTp, gSb, sAsg, sPar, vVar, vC, vNil, vCons, vTup, vLst, v2, addV, intsV, ints0V, mulV, vNeg, eqV', neV', inV', isV, VL.isNon, vTest, vChain, vAnd, vOr, vNot, vAndV, vOrV, vNotV, vIf, ixV, vNo, vPart, vSl, sliceV, vLc_eq, vDc_eq, sFor_eq, sWhile_eq, iSq, iRg1, iRg2, iEn, iZp, vCB, lenV, listV, tupleV, intV1, absV1, ofInts, ofBls, two, vIsi, vM, vM0, appendV, extendV, popV, popAtV, vIndex, vDnew, vCall, sRaise, vYes, vRev, getV, startV, wipeV]
        refine RD.of (r ?_) s'
        rw [hb, if_pos]
        rw [e1]
        simpa using e3
      · cases suf with
        | nil => cases e2
        | cons q suf =>
          cases e2
          subst hΓ
          have hqm : q ∈ (itemsU u).zipIdx := by rw [e1]; simp
          obtain ⟨hqT, ns, hns, hrg⟩ := hint q hqm
          simp [ltV, leV, gtV, geV, sumV, maxV, minV, allV, anyV, sortV, sNext, sSeq, sNever, sBreak, sDrop, sRet, sRetN, sIf, gN, gNl, gCn, gTp, gSb, sAsg, sPar, vVar, vC, vNil, vCons, vTup, vLst, v2, addV, intsV, ints0V, mulV, vNeg, eqV', neV', inV', isV, VL.isNon, vTest, vChain, vAnd, vOr, vNot, vAndV, vOrV, vNotV, vIf, ixV, vNo, vPart, vSl, sliceV, vLc_eq, vDc_eq, sFor_eq, sWhile_eq, iSq, iRg1, iRg2, iEn, iZp, vCB, lenV, listV, tupleV, intV1, absV1, ofInts, ofBls, two, vIsi, vM, vM0, appendV, extendV, popV, popAtV, vIndex, vDnew, vCall, sRaise, vYes, vRev, getV, startV, wipeV, asSq_isT hT, asSq_isT hqT]
          refine LcB.sub (fun y => some (.bl (inU (.int (q.2 : Nat)) (itemsU ((itemsU u).getD (match y with | .int o => o.toNat | _ => 0) .non))))) (fun _ _ => trivial) ?_ (fun vh2 s2 p hp => ?_) fun y hy vh2 s2 K hK => ?_
          · have h := hall q hqm
            simp [listOf, tupOf] at h
            have : (8 : Nat) ≤ sizeLine := by decide
            show (itemsU q.1).length ≤ sizeLine
            omega
          · have e4 : List.filterMap (fun y => some (U.bl (inU (.int (q.2 : Nat)) (itemsU ((itemsU u).getD (match y with | .int o => o.toNat | _ => 0) .non))))) (itemsU q.1) = (ns.map fun o => inU (.int (q.2 : Nat)) (itemsU ((itemsU u).getD o.toNat .non))).map U.bl := by
              rw [hns]; simp [List.filterMap_map, Function.comp_def]
            have e5 : (false ∈ (ns.map fun o => inU (.int (q.2 : Nat)) (itemsU ((itemsU u).getD o.toNat .non)))) = ¬ mutOf (itemsU u) (q.2 : Nat) q.1 = true := by
              simp [mutOf, hns, intsU_map]
            rw [e4, asL_new]
            have hs : SubH vh (vput vh2 p (.lst ((ns.map fun o => inU (.int (q.2 : Nat)) (itemsU ((itemsU u).getD o.toNat .non))).map U.bl))) := (s'.trans s2).put' hp
            generalize vput vh2 p (.lst ((ns.map fun o => inU (.int (q.2 : Nat)) (itemsU ((itemsU u).getD o.toNat .non))).map U.bl)) = vh3 at *
            simp only [blsOf_bl]
            by_cases hm : mutOf (itemsU u) (q.2 : Nat) q.1 = true
            · rw [if_neg (by rw [e5]; simp [hm])]
              refine ⟨hs, pre ++ [q], suf, by simp [e1], rfl, fun r1 r2 hr => ?_⟩
              rcases List.mem_append.1 hr with hr | hr
              · exact e3 _ hr
              · cases List.mem_singleton.1 hr; exact hm
            · rw [if_pos (by rw [e5]; exact hm)]
              refine ZD.of (z _ ?_) hs
              rw [hb, if_neg]
              intro h
              exact hm (List.all_eq_true.1 h q hqm)
          · simp only [hns] at hy
            obtain ⟨o, ho, rfl⟩ := List.mem_map.1 hy
            obtain ⟨h0, h1⟩ := hrg o ho
            obtain ⟨q', hq', eq'⟩ := hgt o h0 h1
            obtain ⟨hT', ns', hns', _⟩ := hint q' hq'
            have e6 : (itemsU u).getD o.toNat .non = q'.1 := by rw [List.getD_eq_getElem?_getD, eq']; rfl
            have hK := hK _ s2
            simp only [e6] at hK
            simp [ltV, leV, gtV, geV, sumV, maxV, minV, allV, anyV, sortV, sNext, sSeq, sNever, sBreak, sDrop, sRet, sRetN, sIf, gN, gNl, gCn, gTp, gSb, sAsg, sPar, vVar, vC, vNil, vCons, vTup, vLst, v2, addV, intsV, ints0V, mulV, vNeg, eqV', neV', inV', isV, VL.isNon, vTest, vChain, vAnd, vOr, vNot, vAndV, vOrV, vNotV, vIf, ixV, vNo, vPart, vSl, sliceV, vLc_eq, vDc_eq, sFor_eq, sWhile_eq, iSq, iRg1, iRg2, iEn, iZp, vCB, lenV, listV, tupleV, intV1, absV1, ofInts, ofBls, two, vIsi, vM, vM0, appendV, extendV, popV, popAtV, vIndex, vDnew, vCall, sRaise, vYes, vRev, getV, startV, wipeV, asSq_isT hT, at_nat h0 h1, eq', asSq_isT hT', hns', okDs_ints, okD]
            rw [hns'] at hK
            exact hK
    · cases suf with
      | nil => cases e2
      | cons q suf =>
        cases e2
        subst hΓ
        have hq := zip_mem (us := itemsU u) (q := q) (by rw [e1]; simp)
        have hm : q.1 ∈ itemsU u := List.mem_of_getElem? hq
        simp [ltV, leV, gtV, geV, sumV, maxV, minV, allV, anyV, sortV, sNext, sSeq, sNever, sBreak, sDrop, sRet, sRetN, sIf, gN, gNl, gCn, gTp, gSb, sAsg, sPar, vVar, vC, vNil, vCons, vTup, vLst, v2, addV, intsV, ints0V, mulV, vNeg, eqV', neV', inV', isV, VL.isNon, vTest, vChain, vAnd, vOr, vNot, vAndV, vOrV, vNotV, vIf, ixV, vNo, vPart, vSl, sliceV, vLc_eq, vDc_eq, sFor_eq, sWhile_eq, iSq, iRg1, iRg2, iEn, iZp, vCB, lenV, listV, tupleV, intV1, absV1, ofInts, ofBls, two, vIsi, vM, vM0, appendV, extendV, popV, popAtV, vIndex, vDnew, vCall, sRaise, vYes, vRev, getV, startV, wipeV, asSq_isT hT, f_is_list_of, (ks q.1 hm).1.sub s']
        refine ⟨by omega, fun x hx => ((ks q.1 hm).2 x hx).sub s', ?_⟩
        by_cases hg : listOf (q.2 : Nat) ((itemsU u).length : Nat) q.1 = true
        · simp [hg]
          refine ⟨s', pre ++ [q], suf, by simp [e1], rfl, fun r1 r2 hr => ?_⟩
          rcases List.mem_append.1 hr with hr | hr
          · exact e3 _ hr
          · cases List.mem_singleton.1 hr; exact hg
        · simp [hg]
          refine ZD.of (z _ ?_) s'
          rw [badU, if_pos ht, e1, find_pre (fun r hr => by simp [e3 r hr]) (by simp [hg])]
  · simp [t_need_wishes, ltV, leV, gtV, geV, sumV, maxV, minV, allV, anyV, sortV, sNext, sSeq, sNever, sBreak, sDrop, sRet, sRetN, sIf, gN, gNl, gCn, gTp, gSb, sAsg, sPar, vVar, vC, vNil, vCons, vTup, vLst, v2, addV, intsV, ints0V, mulV, vNeg, eqV', neV', inV', isV, VL.isNon, vTest, vChain, vAnd, vOr, vNot, vAndV, vOrV, vNotV, vIf, ixV, vNo, vPart, vSl, sliceV, vLc_eq, vDc_eq, sFor_eq, sWhile_eq, iSq, iRg1, iRg2, iEn, iZp, vCB, lenV, listV, tupleV, intV1, absV1, ofInts, ofBls, two, vIsi, vM, vM0, appendV, extendV, popV, popAtV, vIndex, vDnew, vCall, sRaise, vYes, vRev, getV, startV, wipeV, f_is_tuple_of, ku, ht]
    exact ZD.of (z _ (by simp [badU, ht])) (.refl _)
end K75

-- part B3
set_option Elab.async false
set_option linter.all false
set_option maxRecDepth 100000
set_option maxHeartbeats 1000000
/-! Plain laws, part 3: ranks, pairs, blocks. -/
namespace K75
open PySem PySem.Spec PyProof.Rows L2 VL
abbrev WU (W : List (List Int)) : U := .tup (W.map tupI)
def wAt (W : List (List Int)) (i : Int) : List Int := W.getD i.toNat []
def iAt (m : List Int) (i : Int) : Int := m.getD i.toNat 0
def rk (W : List (List Int)) (i j : Int) : Int := if j = i then ((wAt W i).length : Nat) else ((wAt W i).idxOf j : Nat)
theorem eqU_int (a b : Int) : VL.eqU (.int a) (.int b) = decide (a = b) := rfl
theorem idxU_ints {j : Int} : ∀ {ns : List Int}, j ∈ ns → idxU (.int j) (ns.map U.int) = some (ns.idxOf j)
  | n :: ns, h => by
    unfold idxU
    rw [List.map_cons, List.findIdx?_cons, List.idxOf_cons, eqU_int]
    by_cases e : n = j
    · subst e; simp
    · have := idxU_ints (j := j) (ns := ns) (by simpa [Ne.symm e] using h)
      unfold idxU at this
      have e' : (n == j) = false := by simpa using e
      rw [this]; simp [e, e']
theorem at_map {α β : Type} {f : α → β} {us : List α} {i : Int} {u : α} (h0 : 0 ≤ i) (h : us[i.toNat]? = some u) : L2.atI (us.map f) i = some (f u) := by
  obtain ⟨hi, e⟩ := List.getElem?_eq_some_iff.1 h
  unfold L2.atI ixN
  have : i < (us.length : Int) := by omega
  simp [h0, this, e]
theorem wAt_get {W : List (List Int)} {i : Int} (h0 : 0 ≤ i) (h : i < W.length) : W[i.toNat]? = some (wAt W i) := by
  have : i.toNat < W.length := by omega
  simp [wAt, List.getD_eq_getElem?_getD, this]
theorem iAt_get {m : List Int} {i : Int} (h0 : 0 ≤ i) (h : i < m.length) : m[i.toNat]? = some (iAt m i) := by
  have : i.toNat < m.length := by omega
  simp [iAt, List.getD_eq_getElem?_getD, this]
theorem at_W {W : List (List Int)} {i : Int} (h0 : 0 ≤ i) (h : i < W.length) : L2.atI (W.map tupI) i = some (tupI (wAt W i)) := at_map h0 (wAt_get h0 h)
theorem at_m {m : List Int} {i : Int} (h0 : 0 ≤ i) (h : i < m.length) : L2.atI (m.map U.int) i = some (.int (iAt m i)) := at_map h0 (iAt_get h0 h)
def F_rank_by : FV := fun us vh R _ => ∃ W i j, us = [WU W, .int i, .int j] ∧ 0 ≤ i ∧ i < W.length ∧ (j ≠ i → j ∈ wAt W i) ∧ R (.int (rk W i j)) vh
theorem f_rank_by {W : List (List Int)} {i j : Int} {vh : VH} {R : U → VH → Prop} {Z : XV} (h0 : 0 ≤ i) (h1 : i < W.length) (h2 : j ≠ i → j ∈ wAt W i) (h : R (.int (rk W i j)) vh) : F_rank_by [WU W, .int i, .int j] vh R Z := ⟨W, i, j, rfl, h0, h1, h2, h⟩
theorem b_rank_by {S : SS} : BodyV F_rank_by 3 3 (t_rank_by S) := by
  rintro us vh R Z hl ⟨W, i, j, rfl, h0, h1, h2, r⟩
  clear hl
  simp [t_rank_by, ltV, leV, gtV, geV, sumV, maxV, minV, allV, anyV, sortV, sNext, sSeq, sNever, sBreak, sDrop, sRet, sRetN, sIf, gN, gNl, gCn, gTp, gSb, sAsg, sPar, vVar, vC, vNil, vCons, vTup, vLst, v2, addV, intsV, ints0V, mulV, vNeg, eqV', neV', inV', isV, VL.isNon, vTest, vChain, vAnd, vOr, vNot, vAndV, vOrV, vNotV, vIf, ixV, vNo, vPart, vSl, sliceV, vLc_eq, vDc_eq, sFor_eq, sWhile_eq, iSq, iRg1, iRg2, iEn, iZp, vCB, lenV, listV, tupleV, intV1, absV1, ofInts, ofBls, two, vIsi, vM, vM0, appendV, extendV, popV, popAtV, vIndex, vDnew, vCall, sRaise, vYes, vRev, getV, startV, wipeV, at_W h0 h1]
  by_cases e : j = i
  · simp [e] at r ⊢
    simp [tupI, rk] at r ⊢
    exact RD.of r (.refl _)
  · simp [e, tupI, isSqF, okD, okDs_ints, idxU_ints (h2 e)]
    simp [rk, e] at r
    exact RD.of r (.refl _)
/-- a whole list of wishes -/
structure VW (W : List (List Int)) : Prop where
  len : W.length ≤ 8
  nd : ∀ i : Int, 0 ≤ i → i < W.length → (wAt W i).Nodup
  rg : ∀ i : Int, 0 ≤ i → i < W.length → ∀ j ∈ wAt W i, 0 ≤ j ∧ j < W.length ∧ j ≠ i
  sym : ∀ i : Int, 0 ≤ i → i < W.length → ∀ j ∈ wAt W i, i ∈ wAt W j
theorem nd_sub : ∀ {l m : List Int}, l.Nodup → (∀ x ∈ l, x ∈ m) → l.length ≤ m.length
  | [], _, _, _ => by simp
  | x :: l, m, nd, h => by
    have nd := List.nodup_cons.1 nd
    have hx : x ∈ m := h x (by simp)
    have := nd_sub (l := l) (m := m.erase x) nd.2 fun y hy => (List.mem_erase_of_ne (fun z => nd.1 (by rw [← z]; exact hy))).2 (h y (by simp [hy]))
    rw [List.length_erase_of_mem hx] at this
    have : 0 < m.length := List.length_pos_of_mem hx
    simp only [List.length_cons]
    omega
def rng (a b : Int) : List Int := (List.range (b - a).toNat).map fun i => a + (i : Nat)
theorem mem_rng {a b x : Int} : x ∈ rng a b ↔ a ≤ x ∧ x < b := by
  simp only [rng, List.mem_map, List.mem_range]
  constructor
  · rintro ⟨i, h, rfl⟩; omega
  · rintro ⟨h1, h2⟩; exact ⟨(x - a).toNat, by omega, by omega⟩
theorem rng_len {a b : Int} : (rng a b).length = (b - a).toNat := by simp [rng]
theorem rng_nd {a b : Int} : (rng a b).Nodup := by
  unfold rng
  rw [List.nodup_iff_pairwise_ne, List.pairwise_map]
  exact List.Pairwise.imp (fun h z => h (by omega)) List.nodup_range
theorem VW.wl {W : List (List Int)} (v : VW W) {i : Int} (h0 : 0 ≤ i) (h : i < W.length) : (wAt W i).length ≤ 8 := by
  have := nd_sub (m := rng 0 W.length) (v.nd i h0 h) fun x hx => mem_rng.2 ⟨(v.rg i h0 h x hx).1, (v.rg i h0 h x hx).2.1⟩
  rw [rng_len] at this
  have := v.len
  omega
theorem enum_map {α : Type} (f : α → U) (d : α) (l : List α) : enumU (l.map f) = (rng 0 l.length).map fun i => U.tupw [.int i, f (l.getD i.toNat d)] := by
  apply List.ext_getElem?
  intro i
  unfold enumU rng
  simp only [List.getElem?_map, List.getElem?_zipIdx, List.getElem?_range', List.map_map]
  by_cases h : i < l.length
  · simp [List.getElem?_range, h]
  · simp [List.getElem?_eq_none (by omega : l.length ≤ i), h]
theorem enum_W (W : List (List Int)) : enumU (W.map tupI) = (rng 0 W.length).map fun i => U.tupw [.int i, tupI (wAt W i)] := enum_map tupI [] W
theorem enum_m (m : List Int) : enumU (m.map U.int) = (rng 0 m.length).map fun i => U.tupw [.int i, .int (iAt m i)] := enum_map U.int 0 m
def prAt (W : List (List Int)) (i : Int) : List (List Int) := ((wAt W i).filter (fun o => decide (i < o))).map fun o => [i, o]
def mpL (W : List (List Int)) : List (List Int) := (rng 0 W.length).flatMap (prAt W)
theorem mem_mpL {W : List (List Int)} {x : List Int} : x ∈ mpL W ↔ ∃ i o, x = [i, o] ∧ 0 ≤ i ∧ i < W.length ∧ o ∈ wAt W i ∧ i < o := by
  simp only [mpL, prAt, List.mem_flatMap, mem_rng, List.mem_map, List.mem_filter, decide_eq_true_eq]
  constructor
  · rintro ⟨i, ⟨h0, h1⟩, o, ⟨h2, h3⟩, rfl⟩; exact ⟨i, o, rfl, h0, h1, h2, h3⟩
  · rintro ⟨i, o, rfl, h0, h1, h2, h3⟩; exact ⟨i, ⟨h0, h1⟩, o, ⟨h2, h3⟩, rfl⟩
theorem flat_len {α β : Type} {f : α → List β} {k : Nat} : ∀ {l : List α}, (∀ x ∈ l, (f x).length ≤ k) → (l.flatMap f).length ≤ l.length * k
  | [], _ => by simp
  | x :: l, h => by
    have := flat_len (l := l) (k := k) fun y hy => h y (by simp [hy])
    have := h x (by simp)
    simp only [List.flatMap_cons, List.length_append, List.length_cons]
    rw [Nat.add_mul]; omega
theorem prAt_len {W : List (List Int)} (v : VW W) {i : Int} (h0 : 0 ≤ i) (h : i < W.length) : (prAt W i).length ≤ 8 := by
  have := v.wl h0 h
  have := List.length_filter_le (fun o => decide (i < o)) (wAt W i)
  simp only [prAt, List.length_map]
  omega
theorem mpL_len {W : List (List Int)} (v : VW W) : (mpL W).length ≤ 64 := by
  have := flat_len (l := rng 0 W.length) (f := prAt W) (k := 8) fun x hx => prAt_len v (mem_rng.1 hx).1 (mem_rng.1 hx).2
  rw [rng_len] at this
  have := v.len
  unfold mpL
  omega
def F_mutual_pairs : FV := fun us vh R _ => ∃ W, us = [WU W] ∧ VW W ∧ newL vh ((sortL (mpL W)).map tupI) R
theorem sz64 : (100000 : Nat) ≤ sizeLine := by decide
theorem fm_if {α β : Type} (p : α → Bool) (f : α → β) (l : List α) : l.filterMap (fun x => if p x = true then some (f x) else none) = (l.filter p).map f := by
  induction l with
  | nil => rfl
  | cons x l ih => by_cases h : p x = true <;> simp [h, ih]
theorem fm_some {α β : Type} (f : α → β) (l : List α) : l.filterMap (fun x => some (f x)) = l.map f := by
  induction l with
  | nil => rfl
  | cons x l ih => simp
theorem pre_len {l pre suf : List Int} {x : Int} (e : l = pre ++ x :: suf) : pre.length ≤ l.length := by rw [e]; simp
theorem b_mutual_pairs {S : SS} : BodyV F_mutual_pairs 5 1 (t_mutual_pairs S) := by
  rintro us vh R Z hl ⟨W, rfl, v, r⟩
  clear hl
  simp [t_mutual_pairs, ltV, leV, gtV, geV, sumV, maxV, minV, allV, anyV, sortV, sNext, sSeq, sNever, sBreak, sDrop, sRet, sRetN, sIf, gN, gNl, gCn, gTp, gSb, sAsg, sPar, vVar, vC, vNil, vCons, vTup, vLst, v2, addV, intsV, ints0V, mulV, vNeg, eqV', neV', inV', isV, VL.isNon, vTest, vChain, vAnd, vOr, vNot, vAndV, vOrV, vNotV, vIf, ixV, vNo, vPart, vSl, sliceV, vLc_eq, vDc_eq, sFor_eq, sWhile_eq, iSq, iRg1, iRg2, iEn, iZp, vCB, lenV, listV, tupleV, intV1, absV1, ofInts, ofBls, two, vIsi, vM, vM0, appendV, extendV, popV, popAtV, vIndex, vDnew, vCall, sRaise, vYes, vRev, getV, startV, wipeV]
  intro p0 hp0
  rw [enum_W]
  have hsz := sz64
  have hv8 := v.len
  refine ForB.ofm (rng 0 W.length) _ rfl (fun _ => trivial) (fun pre Γ vh' => SubH vh vh' ∧ (∃ b c d, Γ = [some (WU W), some (.ref p0), b, c, d]) ∧ vh' p0 = some (.lst ((pre.flatMap (prAt W)).map tupI)))
    ⟨(SubH.refl _).put hp0, ⟨_, _, _, rfl⟩, vput_same⟩ (fun Γ' vh' ⟨s', ⟨b, c, d, hΓ⟩, e3⟩ => ?_) fun pre i suf Γ' vh' e1 ⟨s', ⟨b, c, d, hΓ⟩, e3⟩ => ?_
  · subst hΓ
    simp [ltV, leV, gtV, geV, sumV, maxV, minV, allV, anyV, sortV, sNext, sSeq, sNever, sBreak, sDrop, sRet, sRetN, sIf, gN, gNl, gCn, gTp, gSb, sAsg, sPar, vVar, vC, vNil, vCons, vTup, vLst, v2, addV, intsV, ints0V, mulV, vNeg, eqV', neV', inV', isV, VL.isNon, vTest, vChain, vAnd, vOr, vNot, vAndV, vOrV, vNotV, vIf, ixV, vNo, vPart, vSl, sliceV, vLc_eq, vDc_eq, sFor_eq, sWhile_eq, iSq, iRg1, iRg2, iEn, iZp, vCB, lenV, listV, tupleV, intV1, absV1, ofInts, ofBls, two, vIsi, vM, vM0, appendV, extendV, popV, popAtV, vIndex, vDnew, vCall, sRaise, vYes, vRev, getV, startV, wipeV, asL_of e3, tupIs_map]
    refine ⟨fun _ ns x hx hn => ?_, fun p hp => RD.of (r p (s'.no hp)) s'.put2⟩
    obtain ⟨_, _, rfl⟩ := List.mem_map.1 hn
    simp
  · subst hΓ
    have hi := mem_rng.1 (show i ∈ rng 0 W.length by rw [e1]; simp)
    have hw := v.wl hi.1 hi.2
    have hpl := pre_len e1
    rw [rng_len] at hpl
    simp [ltV, leV, gtV, geV, sumV, maxV, minV, allV, anyV, sortV, sNext, sSeq, sNever, sBreak, sDrop, sRet, sRetN, sIf, gN, gNl, gCn, gTp, gSb, sAsg, sPar, vVar, vC, vNil, vCons, vTup, vLst, v2, addV, intsV, ints0V, mulV, vNeg, eqV', neV', inV', isV, VL.isNon, vTest, vChain, vAnd, vOr, vNot, vAndV, vOrV, vNotV, vIf, ixV, vNo, vPart, vSl, sliceV, vLc_eq, vDc_eq, sFor_eq, sWhile_eq, iSq, iRg1, iRg2, iEn, iZp, vCB, lenV, listV, tupleV, intV1, absV1, ofInts, ofBls, two, vIsi, vM, vM0, appendV, extendV, popV, popAtV, vIndex, vDnew, vCall, sRaise, vYes, vRev, getV, startV, wipeV, asL_of e3, tupI]
    refine LcB.subm (wAt W i) U.int (fun o => if decide (i < o) = true then some (tupI [i, o]) else none) rfl (fun _ _ => trivial) (by omega) (fun vh2 s2 p hp => ?_) fun y hy vh2 s2 K hK => ?_
    · rw [fm_if]
      have ne : p0 ≠ p := fun z => by rw [s2 _ _ (z ▸ e3)] at hp; cases hp
      have e5 := s2 _ _ e3
      have e6 : (vput vh2 p (.lst (((wAt W i).filter fun o => decide (i < o)).map fun x => tupI [i, x]))) p0 = some (.lst ((pre.flatMap (prAt W)).map tupI)) := putO e5 hp
      rw [ownL_of e6]
      have e7 : (((wAt W i).filter fun o => decide (i < o)).map fun x => tupI [i, x]) = (prAt W i).map tupI := by simp [prAt]
      simp only [ownL_new, e7]
      refine ⟨?_, ((s'.trans s2).put' hp).put hp0, ?_⟩
      · have h8 := flat_len (l := pre) (f := prAt W) (k := 8) fun x hx => by
          have := mem_rng.1 (show x ∈ rng 0 W.length by rw [e1]; simp [hx])
          exact prAt_len v this.1 this.2
        have h9 := prAt_len v hi.1 hi.2
        simp only [List.length_map]
        omega
      · rw [vput_same]
    · by_cases hlt : i < y
      · simp [ltV, leV, gtV, geV, sumV, maxV, minV, allV, anyV, sortV, sNext, sSeq, sNever, sBreak, sDrop, sRet, sRetN, sIf, gN, gNl, gCn, gTp, gSb, sAsg, sPar, vVar, vC, vNil, vCons, vTup, vLst, v2, addV, intsV, ints0V, mulV, vNeg, eqV', neV', inV', isV, VL.isNon, vTest, vChain, vAnd, vOr, vNot, vAndV, vOrV, vNotV, vIf, ixV, vNo, vPart, vSl, sliceV, vLc_eq, vDc_eq, sFor_eq, sWhile_eq, iSq, iRg1, iRg2, iEn, iZp, vCB, lenV, listV, tupleV, intV1, absV1, ofInts, ofBls, two, vIsi, vM, vM0, appendV, extendV, popV, popAtV, vIndex, vDnew, vCall, sRaise, vYes, vRev, getV, startV, wipeV, hlt, tupI] at hK ⊢
        exact ⟨by omega, hK _ s2⟩
      · simp [ltV, leV, gtV, geV, sumV, maxV, minV, allV, anyV, sortV, sNext, sSeq, sNever, sBreak, sDrop, sRet, sRetN, sIf, gN, gNl, gCn, gTp, gSb, sAsg, sPar, vVar, vC, vNil, vCons, vTup, vLst, v2, addV, intsV, ints0V, mulV, vNeg, eqV', neV', inV', isV, VL.isNon, vTest, vChain, vAnd, vOr, vNot, vAndV, vOrV, vNotV, vIf, ixV, vNo, vPart, vSl, sliceV, vLc_eq, vDc_eq, sFor_eq, sWhile_eq, iSq, iRg1, iRg2, iEn, iZp, vCB, lenV, listV, tupleV, intV1, absV1, ofInts, ofBls, two, vIsi, vM, vM0, appendV, extendV, popV, popAtV, vIndex, vDnew, vCall, sRaise, vYes, vRev, getV, startV, wipeV, hlt] at hK ⊢
        exact hK _ s2
end K75

-- part B4
set_option Elab.async false
set_option linter.all false
set_option maxRecDepth 100000
set_option maxHeartbeats 1000000
/-! Plain laws, part 4: blocks, ranks of mates. -/
namespace K75
open PySem PySem.Spec PyProof.Rows L2 VL
/-- whole mates -/
structure GM (W : List (List Int)) (m : List Int) : Prop where
  len : m.length = W.length
  rg : ∀ i : Int, 0 ≤ i → i < W.length → 0 ≤ iAt m i ∧ iAt m i < W.length
  ok : ∀ i : Int, 0 ≤ i → i < W.length → iAt m i ≠ i → iAt m i ∈ wAt W i
  inv : ∀ i : Int, 0 ≤ i → i < W.length → iAt m (iAt m i) = i
def wbk (W : List (List Int)) (m : List Int) (i j : Int) : Bool := decide (rk W i j < rk W i (iAt m i)) && decide (rk W j i < rk W j (iAt m j))
def F_would_break : FV := fun us vh R _ => ∃ W m i j, us = [WU W, tupI m, .int i, .int j] ∧ VW W ∧ GM W m ∧ 0 ≤ i ∧ i < W.length ∧ j ∈ wAt W i ∧ R (.bl (wbk W m i j)) vh
theorem b_would_break {S : SS} : BodyV F_would_break 4 4 (t_would_break S F_rank_by) := by
  rintro us vh R Z hl ⟨W, m, i, j, rfl, v, g, h0, h1, hj, r⟩
  clear hl
  obtain ⟨j0, j1, ji⟩ := v.rg i h0 h1 j hj
  have hi := v.sym i h0 h1 j hj
  have hm := at_m (m := m) h0 (by rw [g.len]; exact h1)
  have hm2 := at_m (m := m) j0 (by rw [g.len]; exact j1)
  simp [t_would_break, ltV, leV, gtV, geV, sumV, maxV, minV, allV, anyV, sortV, sNext, sSeq, sNever, sBreak, sDrop, sRet, sRetN, sIf, gN, gNl, gCn, gTp, gSb, sAsg, sPar, vVar, vC, vNil, vCons, vTup, vLst, v2, addV, intsV, ints0V, mulV, vNeg, eqV', neV', inV', isV, VL.isNon, vTest, vChain, vAnd, vOr, vNot, vAndV, vOrV, vNotV, vIf, ixV, vNo, vPart, vSl, sliceV, vLc_eq, vDc_eq, sFor_eq, sWhile_eq, iSq, iRg1, iRg2, iEn, iZp, vCB, lenV, listV, tupleV, intV1, absV1, ofInts, ofBls, two, vIsi, vM, vM0, appendV, extendV, popV, popAtV, vIndex, vDnew, vCall, sRaise, vYes, vRev, getV, startV, wipeV]
  refine f_rank_by h0 h1 (fun _ => hj) ?_
  simp [tupI, hm]
  refine f_rank_by h0 h1 (g.ok i h0 h1) ?_
  simp only [wbk] at r
  by_cases c : rk W i (iAt m i) ≤ rk W i j
  · simp [c]
    rw [show decide (rk W i j < rk W i (iAt m i)) = false from decide_eq_false (by omega)] at r
    exact RD.of r (.refl _)
  · simp [c]
    rw [show decide (rk W i j < rk W i (iAt m i)) = true from decide_eq_true (by omega)] at r
    refine f_rank_by j0 j1 (fun _ => hi) ?_
    simp [hm2]
    refine f_rank_by j0 j1 (g.ok j j0 j1) ?_
    exact RD.of (by simpa using r) (.refl _)
theorem f_would_break {W : List (List Int)} {m : List Int} {i j : Int} {vh : VH} {R : U → VH → Prop} {Z : XV} (v : VW W) (g : GM W m) (h0 : 0 ≤ i) (h1 : i < W.length) (hj : j ∈ wAt W i) (r : R (.bl (wbk W m i j)) vh) : F_would_break [WU W, tupI m, .int i, .int j] vh R Z := ⟨W, m, i, j, rfl, v, g, h0, h1, hj, r⟩
def wbP (W : List (List Int)) (m : List Int) (x : List Int) : Bool := wbk W m (iAt x 0) (iAt x 1)
def blkL (W : List (List Int)) (m : List Int) : List (List Int) := (sortL (mpL W)).filter (wbP W m)
def F_blocks_by : FV := fun us vh R _ => ∃ W m, us = [WU W, tupI m] ∧ VW W ∧ GM W m ∧ newL vh ((blkL W m).map tupI) R
theorem f_mutual_pairs {W : List (List Int)} {vh : VH} {R : U → VH → Prop} {Z : XV} (v : VW W) (h : newL vh ((sortL (mpL W)).map tupI) R) : F_mutual_pairs [WU W] vh R Z := ⟨W, rfl, v, h⟩
theorem b_blocks_by {S : SS} : BodyV F_blocks_by 4 2 (t_blocks_by S F_mutual_pairs F_would_break) := by
  rintro us vh R Z hl ⟨W, m, rfl, v, g, r⟩
  clear hl
  simp [t_blocks_by, ltV, leV, gtV, geV, sumV, maxV, minV, allV, anyV, sortV, sNext, sSeq, sNever, sBreak, sDrop, sRet, sRetN, sIf, gN, gNl, gCn, gTp, gSb, sAsg, sPar, vVar, vC, vNil, vCons, vTup, vLst, v2, addV, intsV, ints0V, mulV, vNeg, eqV', neV', inV', isV, VL.isNon, vTest, vChain, vAnd, vOr, vNot, vAndV, vOrV, vNotV, vIf, ixV, vNo, vPart, vSl, sliceV, vLc_eq, vDc_eq, sFor_eq, sWhile_eq, iSq, iRg1, iRg2, iEn, iZp, vCB, lenV, listV, tupleV, intV1, absV1, ofInts, ofBls, two, vIsi, vM, vM0, appendV, extendV, popV, popAtV, vIndex, vDnew, vCall, sRaise, vYes, vRev, getV, startV, wipeV]
  refine f_mutual_pairs v fun p hp => ?_
  have hs : SubH vh (vput vh p (.lst ((sortL (mpL W)).map tupI))) := (SubH.refl _).put hp
  have e : vput vh p (.lst ((sortL (mpL W)).map tupI)) p = some (.lst ((sortL (mpL W)).map tupI)) := vput_same
  generalize vput vh p (.lst ((sortL (mpL W)).map tupI)) = vh1 at *
  rw [asSq_of e]
  have hl := mpL_len v
  have hz := sz64
  refine LcB.subm (sortL (mpL W)) tupI (fun x => if wbP W m x = true then some (tupI x) else none) rfl (fun vh' s => asSq_of (s _ _ e)) (by rw [sortL_len]; omega) (fun vh2 s2 q hq => ?_) fun x hx vh2 s2 K hK => ?_
  · rw [fm_if]
    exact RD.of (r q ((hs.trans s2).no hq)) (hs.trans s2).put2
  · obtain ⟨i, o, rfl, h0, h1, h2, h3⟩ := mem_mpL.1 (mem_sortL.1 hx)
    simp [ltV, leV, gtV, geV, sumV, maxV, minV, allV, anyV, sortV, sNext, sSeq, sNever, sBreak, sDrop, sRet, sRetN, sIf, gN, gNl, gCn, gTp, gSb, sAsg, sPar, vVar, vC, vNil, vCons, vTup, vLst, v2, addV, intsV, ints0V, mulV, vNeg, eqV', neV', inV', isV, VL.isNon, vTest, vChain, vAnd, vOr, vNot, vAndV, vOrV, vNotV, vIf, ixV, vNo, vPart, vSl, sliceV, vLc_eq, vDc_eq, sFor_eq, sWhile_eq, iSq, iRg1, iRg2, iEn, iZp, vCB, lenV, listV, tupleV, intV1, absV1, ofInts, ofBls, two, vIsi, vM, vM0, appendV, extendV, popV, popAtV, vIndex, vDnew, vCall, sRaise, vYes, vRev, getV, startV, wipeV, tupI]
    refine f_would_break v g h0 h1 h2 ?_
    have hK := hK _ s2
    simp only [wbP, show iAt [i, o] 0 = i from rfl, show iAt [i, o] 1 = o from rfl] at hK
    by_cases c : wbk W m i o = true
    · simp [c, tupI] at hK ⊢
      exact ⟨by omega, hK⟩
    · simp [c] at hK ⊢
      exact hK
def rksL (W : List (List Int)) (m : List Int) : List Int := (rng 0 W.length).map fun i => rk W i (iAt m i)
def F_ranks_by : FV := fun us vh R _ => ∃ W m, us = [WU W, tupI m] ∧ VW W ∧ GM W m ∧ newL vh ((rksL W m).map U.int) R
theorem b_ranks_by {S : SS} : BodyV F_ranks_by 4 2 (t_ranks_by S F_rank_by) := by
  rintro us vh R Z hl ⟨W, m, rfl, v, g, r⟩
  clear hl
  have hz := sz64
  have h8 := v.len
  simp [t_ranks_by, ltV, leV, gtV, geV, sumV, maxV, minV, allV, anyV, sortV, sNext, sSeq, sNever, sBreak, sDrop, sRet, sRetN, sIf, gN, gNl, gCn, gTp, gSb, sAsg, sPar, vVar, vC, vNil, vCons, vTup, vLst, v2, addV, intsV, ints0V, mulV, vNeg, eqV', neV', inV', isV, VL.isNon, vTest, vChain, vAnd, vOr, vNot, vAndV, vOrV, vNotV, vIf, ixV, vNo, vPart, vSl, sliceV, vLc_eq, vDc_eq, sFor_eq, sWhile_eq, iSq, iRg1, iRg2, iEn, iZp, vCB, lenV, listV, tupleV, intV1, absV1, ofInts, ofBls, two, vIsi, vM, vM0, appendV, extendV, popV, popAtV, vIndex, vDnew, vCall, sRaise, vYes, vRev, getV, startV, wipeV, tupI]
  rw [enum_m]
  refine LcB.subm (rng 0 m.length) _ (fun i => some (.int (rk W i (iAt m i)))) rfl (fun vh' s => trivial) (by rw [rng_len, g.len]; omega) (fun vh2 s2 q hq => ?_) fun x hx vh2 s2 K hK => ?_
  · rw [fm_some]
    have e : (rng 0 m.length).map (fun i => U.int (rk W i (iAt m i))) = (rksL W m).map U.int := by rw [g.len]; simp [rksL]
    rw [e]
    exact RD.of (r q (s2.no hq)) s2.put2
  · have hx := mem_rng.1 hx
    rw [g.len] at hx
    simp [ltV, leV, gtV, geV, sumV, maxV, minV, allV, anyV, sortV, sNext, sSeq, sNever, sBreak, sDrop, sRet, sRetN, sIf, gN, gNl, gCn, gTp, gSb, sAsg, sPar, vVar, vC, vNil, vCons, vTup, vLst, v2, addV, intsV, ints0V, mulV, vNeg, eqV', neV', inV', isV, VL.isNon, vTest, vChain, vAnd, vOr, vNot, vAndV, vOrV, vNotV, vIf, ixV, vNo, vPart, vSl, sliceV, vLc_eq, vDc_eq, sFor_eq, sWhile_eq, iSq, iRg1, iRg2, iEn, iZp, vCB, lenV, listV, tupleV, intV1, absV1, ofInts, ofBls, two, vIsi, vM, vM0, appendV, extendV, popV, popAtV, vIndex, vDnew, vCall, sRaise, vYes, vRev, getV, startV, wipeV]
    exact f_rank_by hx.1 hx.2 (g.ok x hx.1 hx.2) (hK _ s2)
end K75

-- part B5
set_option Elab.async false
set_option linter.all false
set_option maxRecDepth 100000
set_option maxHeartbeats 1000000
/-! Plain laws, part 5: all mates. -/
namespace K75
open PySem PySem.Spec PyProof.Rows L2 VL
/-- mates of the first few -/
structure PM (W : List (List Int)) (s : List Int) : Prop where
  le : s.length ≤ W.length
  rg : ∀ i : Int, 0 ≤ i → i < s.length → 0 ≤ iAt s i ∧ iAt s i < W.length
  ok : ∀ i : Int, 0 ≤ i → i < s.length → iAt s i ≠ i → iAt s i ∈ wAt W i
  inv : ∀ i : Int, 0 ≤ i → i < s.length → iAt s i < s.length → iAt s (iAt s i) = i
  inj : ∀ i j : Int, 0 ≤ i → i < s.length → 0 ≤ j → j < s.length → iAt s i = iAt s j → i = j
theorem PM.nil {W : List (List Int)} : PM W [] := ⟨by simp, fun i h0 h1 => by simp at h1; omega, fun i h0 h1 => by simp at h1; omega, fun i h0 h1 => by simp at h1; omega, fun i j h0 h1 => by simp at h1; omega⟩
theorem iAt_app_lt {s : List Int} {x i : Int} (h0 : 0 ≤ i) (h1 : i < s.length) : iAt (s ++ [x]) i = iAt s i := by
  unfold iAt
  rw [List.getD_eq_getElem?_getD, List.getD_eq_getElem?_getD, List.getElem?_append_left (by omega)]
theorem iAt_app_len {s : List Int} {x : Int} : iAt (s ++ [x]) (s.length : Nat) = x := by
  unfold iAt
  simp [List.getD_eq_getElem?_getD]
theorem iAt_mem {s : List Int} {i : Int} (h0 : 0 ≤ i) (h1 : i < s.length) : iAt s i ∈ s := List.mem_of_getElem? (iAt_get h0 h1)
theorem mem_iAt {s : List Int} {x : Int} (h : x ∈ s) : 0 ≤ (s.idxOf x : Int) ∧ (s.idxOf x : Int) < s.length ∧ iAt s (s.idxOf x : Nat) = x := by
  have := List.idxOf_lt_length_iff.2 h
  refine ⟨by omega, by omega, ?_⟩
  unfold iAt
  simp [List.getD_eq_getElem?_getD, this]
/-- one more -/
theorem PM.step {W : List (List Int)} {s : List Int} {x : Int} (p : PM W s) (hl : s.length < W.length) (h0 : 0 ≤ x) (h1 : x < W.length) (ok : x ≠ s.length → x ∈ wAt W s.length)
    (hn : x ∉ s) (hi : x < s.length → iAt s x = s.length) (hs : (s.length : Int) ∈ s → x < s.length) : PM W (s ++ [x]) := by
  have L : ((s ++ [x]).length : Int) = s.length + 1 := by simp
  refine ⟨by simp; omega, fun i a b => ?_, fun i a b c => ?_, fun i a b c => ?_, fun i j a b c d e => ?_⟩
  · rw [L] at b
    by_cases q : i = s.length
    · subst q; rw [iAt_app_len]; exact ⟨h0, h1⟩
    · rw [iAt_app_lt a (by omega)]; exact p.rg i a (by omega)
  · rw [L] at b
    by_cases q : i = s.length
    · subst q; rw [iAt_app_len] at c ⊢; exact ok c
    · rw [iAt_app_lt a (by omega)] at c ⊢; exact p.ok i a (by omega) c
  · rw [L] at b c
    by_cases q : i = s.length
    · subst q
      rw [iAt_app_len] at c ⊢
      by_cases z : x = s.length
      · rw [z, iAt_app_len]
      · rw [iAt_app_lt h0 (by omega)]; exact hi (by omega)
    · rw [iAt_app_lt a (by omega)] at c ⊢
      have r := p.rg i a (by omega)
      by_cases z : iAt s i = s.length
      · have hm : (s.length : Int) ∈ s := by rw [← z]; exact iAt_mem a (by omega)
        have hx := hs hm
        rw [z, iAt_app_len]
        have := hi hx
        exact p.inj x i h0 hx a (by omega) (by rw [this, z])
      · rw [iAt_app_lt r.1 (by omega)]; exact p.inv i a (by omega) (by omega)
  · rw [L] at b d
    by_cases q : i = s.length <;> by_cases z : j = s.length
    · rw [q, z]
    · subst q
      rw [iAt_app_len, iAt_app_lt c (by omega)] at e
      exact absurd (e ▸ iAt_mem c (by omega)) hn
    · subst z
      rw [iAt_app_len, iAt_app_lt a (by omega)] at e
      exact absurd (e ▸ iAt_mem a (by omega)) hn
    · rw [iAt_app_lt c (by omega), iAt_app_lt a (by omega)] at e
      exact p.inj i j a (by omega) c (by omega) e
theorem PM.gm {W : List (List Int)} {s : List Int} (p : PM W s) (h : s.length = W.length) : GM W s :=
  ⟨h, fun i a b => p.rg i a (by omega), fun i a b => p.ok i a (by omega), fun i a b => p.inv i a (by omega) (by have := p.rg i a (by omega); omega)⟩
def latL (W : List (List Int)) (s : List Int) : List Int := (wAt W s.length).filter fun o => decide ((s.length : Int) < o) && !decide (o ∈ s)
def kidsL (W : List (List Int)) (s : List Int) : List (List Int) := if (s.length : Int) ∈ s then [s ++ [(s.idxOf (s.length : Int) : Int)]] else (latL W s ++ [(s.length : Int)]).map fun o => s ++ [o]
theorem kids_pm {W : List (List Int)} {s t : List Int} (v : VW W) (p : PM W s) (hl : s.length < W.length) (h : t ∈ kidsL W s) : PM W t ∧ t.length = s.length + 1 := by
  unfold kidsL at h
  split at h
  · rename_i hm
    cases List.mem_singleton.1 h
    obtain ⟨a, b, c⟩ := mem_iAt hm
    have hne : ((s.idxOf (s.length : Int) : Nat) : Int) ≠ s.length := by omega
    refine ⟨p.step hl a (by omega) (fun _ => ?_) (fun z => ?_) (fun _ => c) (fun _ => b), by simp⟩
    · have := p.ok _ a b (by rw [c]; omega)
      rw [c] at this
      exact v.sym _ a (by omega) _ this
    · obtain ⟨a2, b2, c2⟩ := mem_iAt z
      have i2 := p.inv _ a2 b2 (by rw [c2]; exact b)
      rw [c2, c] at i2
      omega
  · rename_i hm
    obtain ⟨o, ho, rfl⟩ := List.mem_map.1 h
    rcases List.mem_append.1 ho with ho | ho
    · simp only [latL, List.mem_filter, Bool.and_eq_true, decide_eq_true_eq, Bool.not_eq_true', decide_eq_false_iff_not] at ho
      have hr := v.rg s.length (by omega) (by omega) o ho.1
      exact ⟨p.step hl hr.1 hr.2.1 (fun _ => ho.1) ho.2.2 (fun z => by omega) (fun z => absurd z hm), by simp⟩
    · cases List.mem_singleton.1 ho
      exact ⟨p.step hl (by omega) (by omega) (fun z => absurd rfl z) hm (fun z => by omega) (fun z => absurd z hm), by simp⟩
/-- all that grows out of s in f steps -/
def grow (W : List (List Int)) : Nat → List Int → List (List Int)
  | 0, s => [s]
  | f + 1, s => (kidsL W s).flatMap (grow W f)
def fullL (W : List (List Int)) (s : List Int) : List (List Int) := grow W (W.length - s.length) s
theorem full_done {W : List (List Int)} {s : List Int} (h : s.length = W.length) : fullL W s = [s] := by unfold fullL; rw [h, Nat.sub_self]; rfl
theorem flatMap_cg {α β : Type} {f g : α → List β} : ∀ {l : List α}, (∀ x ∈ l, f x = g x) → l.flatMap f = l.flatMap g
  | [], _ => rfl
  | x :: l, h => by simp [List.flatMap_cons, h x (by simp), flatMap_cg (l := l) fun y hy => h y (by simp [hy])]
theorem kids_len {W : List (List Int)} {s t : List Int} (h : t ∈ kidsL W s) : t.length = s.length + 1 := by
  unfold kidsL at h
  split at h
  · cases List.mem_singleton.1 h; simp
  · obtain ⟨o, ho, rfl⟩ := List.mem_map.1 h; simp
theorem full_kids {W : List (List Int)} {s : List Int} (h : s.length < W.length) : fullL W s = (kidsL W s).flatMap (fullL W) := by
  unfold fullL
  rw [show W.length - s.length = (W.length - (s.length + 1)) + 1 from by omega]
  exact flatMap_cg fun t ht => by rw [kids_len ht]
theorem grow_gm {W : List (List Int)} (v : VW W) : ∀ (f : Nat) (s t : List Int), PM W s → s.length + f = W.length → t ∈ grow W f s → GM W t
  | 0, s, t, p, e, h => by cases List.mem_singleton.1 h; exact p.gm (by omega)
  | f + 1, s, t, p, e, h => by
    obtain ⟨k, hk, ht⟩ := List.mem_flatMap.1 h
    have := kids_pm v p (by omega) hk
    exact grow_gm v f k t this.1 (by omega) ht
theorem lat_len {W : List (List Int)} {s : List Int} (v : VW W) (hl : s.length < W.length) : (latL W s).length ≤ W.length - s.length - 1 := by
  have := nd_sub (l := latL W s) (m := rng (s.length + 1) W.length) ((v.nd s.length (by omega) (by omega)).filter _) fun o ho => by
    simp only [latL, List.mem_filter, Bool.and_eq_true, decide_eq_true_eq, Bool.not_eq_true', decide_eq_false_iff_not] at ho
    have hr := v.rg s.length (by omega) (by omega) o ho.1
    exact mem_rng.2 ⟨by omega, by omega⟩
  rw [rng_len] at this
  omega
theorem kids_le {W : List (List Int)} {s : List Int} (v : VW W) (hl : s.length < W.length) : (kidsL W s).length ≤ W.length - s.length := by
  have := lat_len v hl
  unfold kidsL
  split
  · simp; omega
  · simp; omega
/-- the nodes -/
def nodes : Nat → Nat
  | 0 => 1
  | f + 1 => 1 + (f + 1) * nodes f
end K75

-- part B6
set_option Elab.async false
set_option linter.all false
set_option maxRecDepth 100000
set_option maxHeartbeats 1000000
/-! Plain laws, part 6: all_mates_by. -/
namespace K75
open PySem PySem.Spec PyProof.Rows L2 VL
theorem nodes_pos : ∀ f, 1 ≤ nodes f
  | 0 => by simp [nodes]
  | f + 1 => by simp [nodes]
theorem nodes_mono {a b : Nat} (h : a ≤ b) : nodes a ≤ nodes b := by
  induction b with
  | zero => have : a = 0 := by omega
            subst this; exact Nat.le_refl _
  | succ b ih =>
    by_cases e : a = b + 1
    · subst e; exact Nat.le_refl _
    · have := ih (by omega)
      have h2 : 1 * nodes b ≤ (b + 1) * nodes b := Nat.mul_le_mul_right _ (by omega)
      simp only [nodes]; omega
theorem nodes8 {n : Nat} (h : n ≤ 8) : nodes n ≤ 109601 := Nat.le_trans (nodes_mono h) (by decide)
theorem grow_len {W : List (List Int)} (v : VW W) : ∀ (f : Nat) (s : List Int), PM W s → s.length + f = W.length → (grow W f s).length ≤ nodes f
  | 0, s, _, _ => by simp [grow, nodes]
  | f + 1, s, p, e => by
    have h := flat_len (l := kidsL W s) (f := grow W f) (k := nodes f) fun t ht => by
      have := kids_pm v p (by omega) ht
      exact grow_len v f t this.1 (by omega)
    have h2 := kids_le v (s := s) (by omega)
    have h3 : (kidsL W s).length * nodes f ≤ (f + 1) * nodes f := Nat.mul_le_mul_right _ (by omega)
    simp only [grow, nodes]; omega
def cost (W : List (List Int)) (s : List Int) : Nat := nodes (W.length - s.length)
def costs (W : List (List Int)) (l : List (List Int)) : Nat := (l.map (cost W)).sum
theorem costs_app {W : List (List Int)} {a b : List (List Int)} : costs W (a ++ b) = costs W a + costs W b := by simp [costs]
theorem costs_le {W : List (List Int)} {k : Nat} : ∀ {l : List (List Int)}, (∀ s ∈ l, cost W s ≤ k) → costs W l ≤ l.length * k
  | [], _ => by simp [costs]
  | s :: l, h => by
    have := costs_le (W := W) (k := k) (l := l) fun t ht => h t (by simp [ht])
    have := h s (by simp)
    simp only [costs, List.map_cons, List.sum_cons, List.length_cons, Nat.add_mul] at *
    omega
theorem costs_len {W : List (List Int)} : ∀ {l : List (List Int)}, l.length ≤ costs W l
  | [] => by simp
  | s :: l => by
    have := costs_len (W := W) (l := l)
    have := nodes_pos (W.length - s.length)
    simp only [costs, List.map_cons, List.sum_cons, List.length_cons, cost] at *
    omega
theorem kids_cost {W : List (List Int)} {s : List Int} (v : VW W) (hl : s.length < W.length) : costs W (kidsL W s) < cost W s := by
  have h := costs_le (W := W) (l := kidsL W s) (k := nodes (W.length - s.length - 1)) fun t ht => by
    unfold cost
    rw [kids_len ht]
    exact Nat.le_refl _
  have h2 := kids_le v hl
  have h3 : (kidsL W s).length * nodes (W.length - s.length - 1) ≤ (W.length - s.length) * nodes (W.length - s.length - 1) := Nat.mul_le_mul_right _ h2
  unfold cost
  rw [show W.length - s.length = (W.length - s.length - 1) + 1 from by omega] at h3 ⊢
  simp only [nodes, Nat.add_sub_cancel] at *
  omega
theorem okDs_tups (l : List (List Int)) : okDs 9 (l.map tupI) = true := by
  induction l with
  | nil => rfl
  | cons a l ih => simp [okDs, tupI, okD, okDs_ints, ih]
theorem sz1m : (1000000 : Nat) ≤ sizeLine := by decide
def allL (W : List (List Int)) : List (List Int) := sortL (fullL W [])
theorem all_gm {W : List (List Int)} (v : VW W) {m : List Int} (h : m ∈ allL W) : GM W m := by
  unfold allL at h
  rw [mem_sortL] at h
  exact grow_gm v _ _ _ PM.nil (by simp) h
theorem all_len {W : List (List Int)} (v : VW W) : (allL W).length ≤ 109601 := by
  unfold allL
  rw [sortL_len]
  exact Nat.le_trans (grow_len v _ _ PM.nil (by simp)) (nodes8 (by have := v.len; simp; omega))
def F_all_mates_by : FV := fun us vh R _ => ∃ W, us = [WU W] ∧ VW W ∧ newL vh ((allL W).map tupI) R
theorem last_of {α : Type} {l : List α} (h : l ≠ []) : ∃ i x, l = i ++ [x] := ⟨l.dropLast, l.getLast h, (List.dropLast_concat_getLast h).symm⟩
/-- the while's law -/
structure AInv (W : List (List Int)) (vh : VH) (p1 p2 : Addr) (k : Nat) (vh' : VH) (found wait : List (List Int)) : Prop where
  s : SubH vh vh'
  e1 : vh' p1 = some (.lst (found.map tupI))
  e2 : vh' p2 = some (.lst (wait.map tupI))
  pm : ∀ s ∈ wait, PM W s
  pe : (found ++ wait.flatMap (fullL W)).Perm (fullL W [])
  k1 : costs W wait = k
  k2 : k ≤ 109601
def AW (W : List (List Int)) (vh : VH) (p1 p2 : Addr) (k : Nat) (Γ : List (Option U)) (vh' : VH) : Prop := (∃ a b c d, Γ = [some (WU W), some (.ref p1), some (.ref p2), a, b, c, d]) ∧ ∃ found wait, AInv W vh p1 p2 k vh' found wait
theorem flat_snoc {α β : Type} {f : α → List β} {l : List α} {x : α} : (l ++ [x]).flatMap f = l.flatMap f ++ f x := by simp
theorem b_all_mates_by {S : SS} : BodyV F_all_mates_by 7 1 (t_all_mates_by S) := by
  rintro us vh R Z hl ⟨W, rfl, v, r⟩
  clear hl
  have hsz := sz1m
  have hv8 := v.len
  simp [t_all_mates_by, ltV, leV, gtV, geV, sumV, maxV, minV, allV, anyV, sortV, sNext, sSeq, sNever, sBreak, sDrop, sRet, sRetN, sIf, gN, gNl, gCn, gTp, gSb, sAsg, sPar, vVar, vC, vNil, vCons, vTup, vLst, v2, addV, intsV, ints0V, mulV, vNeg, eqV', neV', inV', isV, VL.isNon, vTest, vChain, vAnd, vOr, vNot, vAndV, vOrV, vNotV, vIf, ixV, vNo, vPart, vSl, sliceV, vLc_eq, vDc_eq, sFor_eq, sWhile_eq, iSq, iRg1, iRg2, iEn, iZp, vCB, lenV, listV, tupleV, intV1, absV1, ofInts, ofBls, two, vIsi, vM, vM0, appendV, extendV, popV, popAtV, vIndex, vDnew, vCall, sRaise, vYes, vRev, getV, startV, wipeV]
  intro p1 hp1
  refine ⟨by omega, fun p2 hp2 => ?_⟩
  have hne : p2 ≠ p1 := fun z => by subst z; rw [vput_same] at hp2; cases hp2
  have hp2' : vh p2 = none := by rw [vput_ne hne] at hp2; exact hp2
  have hfl : (fullL W []).length ≤ 109601 := by have := all_len v; unfold allL at this; rwa [sortL_len] at this
  refine ⟨AW W vh p1 p2, ⟨_, ⟨_, _, _, _, rfl⟩, [], [[]], ((SubH.refl _).put hp1).put hp2', ?_, vput_same, ?_, ?_, rfl, ?_⟩, ?_⟩
  · rw [vput_ne (Ne.symm hne), vput_same]; rfl
  · intro s hs; cases List.mem_singleton.1 hs; exact PM.nil
  · simp
  · have := nodes8 v.len
    simp [costs, cost]; exact this
  rintro k Γ vh' ⟨⟨a, b, c, d, rfl⟩, found, wait, s', e1, e2, hw, hp, hk, hk2⟩
  have hfd : found.length ≤ 109601 := by have := hp.length_eq; simp at this; omega
  simp [ltV, leV, gtV, geV, sumV, maxV, minV, allV, anyV, sortV, sNext, sSeq, sNever, sBreak, sDrop, sRet, sRetN, sIf, gN, gNl, gCn, gTp, gSb, sAsg, sPar, vVar, vC, vNil, vCons, vTup, vLst, v2, addV, intsV, ints0V, mulV, vNeg, eqV', neV', inV', isV, VL.isNon, vTest, vChain, vAnd, vOr, vNot, vAndV, vOrV, vNotV, vIf, ixV, vNo, vPart, vSl, sliceV, vLc_eq, vDc_eq, sFor_eq, sWhile_eq, iSq, iRg1, iRg2, iEn, iZp, vCB, lenV, listV, tupleV, intV1, absV1, ofInts, ofBls, two, vIsi, vM, vM0, appendV, extendV, popV, popAtV, vIndex, vDnew, vCall, sRaise, vYes, vRev, getV, startV, wipeV]
  intro q hq
  have hq1 : vh' q = none := hq
  have s1 : SubH vh (vput vh' q (.lst [])) := s'.put' hq
  have e1' : vput vh' q (.lst []) p1 = some (.lst (found.map tupI)) := putO e1 hq
  have e2' : vput vh' q (.lst []) p2 = some (.lst (wait.map tupI)) := putO e2 hq
  refine eqR_lists (asL_of e2') asL_new (okDs_tups _) rfl ?_
  rw [eqUs_nil]
  generalize vput vh' q (.lst []) = vh1 at *
  by_cases hwn : wait = []
  · subst hwn
    simp [asL_of e1', tupIs_map]
    simp at hp
    refine ⟨fun h2 ns hn => ?_, fun p hpn => ?_⟩
    · intro z
      have gm := grow_gm v _ _ _ PM.nil (by simp) (hp.mem_iff.1 hn)
      subst z
      have h0 : W.length = 0 := by simpa using gm.len.symm
      have := hp.length_eq
      rw [full_done (by simpa using h0.symm)] at this
      simp at this
      omega
    · have := r p (s1.no hpn)
      rw [show sortL found = allL W from sortL_congr hp]
      exact RD.of this s1.put2
  · obtain ⟨w, s, rfl⟩ := last_of hwn
    have hs := hw s (by simp)
    have hkc : k = costs W w + cost W s := by rw [← hk, costs_app]; simp [costs]
    have hwl : w.length ≤ 109601 := Nat.le_trans (costs_len (W := W)) (by omega)
    simp [asL_of e2', ownL_of e2']
    have s2 : SubH vh (vput vh1 p2 (.lst (w.map tupI))) := s1.put hp2'
    have e1 : vput vh1 p2 (.lst (w.map tupI)) p1 = some (.lst (found.map tupI)) := by rw [vput_ne (Ne.symm hne)]; exact e1'
    have e2 : vput vh1 p2 (.lst (w.map tupI)) p2 = some (.lst (w.map tupI)) := vput_same
    generalize vput vh1 p2 (.lst (w.map tupI)) = vh2 at *
    rw [flat_snoc] at hp
    by_cases hfin : s.length = W.length
    · simp [tupI, hfin, asL_of e1, ownL_of e1]
      rw [full_done hfin] at hp
      refine ⟨by omega, costs W w, ?_, ⟨_, _, _, _, rfl⟩, found ++ [s], w, s2.put hp1, ?_, ?_, fun t ht => hw t (by simp [ht]), ?_, rfl, by omega⟩
      · have := nodes_pos (W.length - s.length); unfold cost at hkc; omega
      · rw [vput_same]; simp [tupI]
      · rw [vput_ne hne]; exact e2
      · refine List.Perm.trans ?_ hp
        simp only [List.append_assoc]
        exact List.Perm.append_left _ List.perm_append_comm
    · have hlt : s.length < W.length := by have := hs.le; omega
      have hne' : ¬ ((s.length : Int) = W.length) := by omega
      have hkids := kids_cost v hlt
      rw [full_kids hlt] at hp
      simp [tupI, hne', okDs_ints, okD, inU_ints, isSqF, asL_of e2, ownL_of e2]
      by_cases hm : (s.length : Int) ∈ s
      · simp [hm, idxU_ints hm]
        have hks : kidsL W s = [s ++ [(s.idxOf (s.length : Int) : Int)]] := by unfold kidsL; rw [if_pos hm]
        rw [hks] at hkids hp
        refine ⟨by omega, by omega, by omega, costs W (w ++ [s ++ [(s.idxOf (s.length : Int) : Int)]]), ?_, ⟨_, _, _, _, rfl⟩, found, w ++ [s ++ [(s.idxOf (s.length : Int) : Int)]], s2.put hp2', ?_, ?_, fun t ht => ?_, ?_, rfl, ?_⟩
        · rw [costs_app]; omega
        · rw [vput_ne (Ne.symm hne)]; exact e1
        · rw [vput_same]; simp [tupI]
        · rcases List.mem_append.1 ht with ht | ht
          · exact hw t (by simp [ht])
          · exact (kids_pm v hs hlt (by rw [hks]; exact ht)).1
        · rw [List.flatMap_append]; exact hp
        · rw [costs_app]; omega
      · simp [hm]
        have hks : kidsL W s = (latL W s ++ [(s.length : Int)]).map fun o => s ++ [o] := by unfold kidsL; rw [if_neg hm]
        rw [hks] at hkids hp
        rw [at_W (by omega) (by omega)]
        have hwl2 := v.wl (i := s.length) (by omega) (by omega)
        have hlat := lat_len (s := s) v hlt
        simp [tupI]
        refine LcB.subm (wAt W s.length) U.int (fun o => if (decide ((s.length : Int) < o) && !decide (o ∈ s)) = true then some (.int o) else none) rfl (fun _ _ => trivial) (by omega) (fun vh3 s3 p hp3 => ?_) fun o ho vh3 s3 K hK => ?_
        · rw [fm_if]
          have e2a := s3 _ _ e2
          have e1a := s3 _ _ e1
          have e2b : vput vh3 p (.lst ((latL W s).map U.int)) p2 = some (.lst (w.map tupI)) := putO e2a hp3
          have e1b : vput vh3 p (.lst ((latL W s).map U.int)) p1 = some (.lst (found.map tupI)) := putO e1a hp3
          have epb : vput vh3 p (.lst ((latL W s).map U.int)) p = some (.lst ((latL W s).map U.int)) := vput_same
          have s4 : SubH vh (vput vh3 p (.lst ((latL W s).map U.int))) := (s2.trans s3).put' hp3
          change _ ∧ _
          unfold latL at e2b e1b epb s4
          generalize vput vh3 p (.lst (List.map U.int (List.filter (fun o => decide ((s.length : Int) < o) && !decide (o ∈ s)) (wAt W s.length)))) = vh4 at *
          refine ⟨by rw [asL_of e2b]; rfl, by omega, fun q2 hq2 => ?_⟩
          have e2c : vput vh4 q2 (.lst [U.int s.length]) p2 = some (.lst (w.map tupI)) := putO e2b hq2
          have e1c : vput vh4 q2 (.lst [U.int s.length]) p1 = some (.lst (found.map tupI)) := putO e1b hq2
          have epc := putO (c := .lst [U.int s.length]) epb hq2
          have s5 : SubH vh (vput vh4 q2 (.lst [U.int s.length])) := s4.put' hq2
          simp only [ownL_of epc, ownL_new]
          generalize vput vh4 q2 (.lst [U.int s.length]) = vh5 at *
          have hll : (List.filter (fun o => decide ((s.length : Int) < o) && !decide (o ∈ s)) (wAt W s.length)).length ≤ 8 := by unfold latL at hlat; omega
          refine ⟨by simp only [List.length_map, List.length_cons, List.length_nil]; omega, fun q3 hq3 => ?_⟩
          have em : List.map U.int (List.filter (fun o => decide ((s.length : Int) < o) && !decide (o ∈ s)) (wAt W s.length)) ++ [U.int s.length] = (latL W s ++ [(s.length : Int)]).map U.int := by simp [latL]
          rw [em]
          have e2d : vput vh5 q3 (.lst ((latL W s ++ [(s.length : Int)]).map U.int)) p2 = some (.lst (w.map tupI)) := putO e2c hq3
          have e1d : vput vh5 q3 (.lst ((latL W s ++ [(s.length : Int)]).map U.int)) p1 = some (.lst (found.map tupI)) := putO e1c hq3
          have e3d : vput vh5 q3 (.lst ((latL W s ++ [(s.length : Int)]).map U.int)) q3 = some (.lst ((latL W s ++ [(s.length : Int)]).map U.int)) := vput_same
          have s6 : SubH vh (vput vh5 q3 (.lst ((latL W s ++ [(s.length : Int)]).map U.int))) := s5.put' hq3
          generalize vput vh5 q3 (.lst ((latL W s ++ [(s.length : Int)]).map U.int)) = vh6 at *
          simp only [asSq_of e3d]
          refine LcB.subm (latL W s ++ [(s.length : Int)]) U.int (fun o => some (tupI (s ++ [o]))) rfl (fun vh' s' => asSq_of (s' _ _ e3d)) (by simp only [List.length_append, List.length_cons, List.length_nil]; omega) (fun vh7 s7 p7 hp7 => ?_) fun o ho vh7 s7 K hK => ?_
          · rw [fm_some]
            have e2e := putO (c := .lst ((latL W s ++ [(s.length : Int)]).map fun o => tupI (s ++ [o]))) (s7 _ _ e2d) hp7
            have e1e := putO (c := .lst ((latL W s ++ [(s.length : Int)]).map fun o => tupI (s ++ [o]))) (s7 _ _ e1d) hp7
            have s8 := (s6.trans s7).put' (c := .lst ((latL W s ++ [(s.length : Int)]).map fun o => tupI (s ++ [o]))) hp7
            simp only [ownL_of e2e, ownL_new]
            have ek : (latL W s ++ [(s.length : Int)]).map (fun o => tupI (s ++ [o])) = (kidsL W s).map tupI := by rw [hks, List.map_map]; rfl
            rw [← hks] at hkids hp
            rw [ek] at e2e e1e s8 ⊢
            have hkl := kids_le v hlt
            refine ⟨by simp only [List.length_map]; omega, costs W (w ++ kidsL W s), ?_, ⟨_, _, _, _, rfl⟩, found, w ++ kidsL W s, s8.put hp2', ?_, ?_, fun t ht => ?_, ?_, rfl, ?_⟩
            · rw [costs_app]; omega
            · rw [vput_ne (Ne.symm hne)]; exact e1e
            · rw [vput_same]; simp
            · rcases List.mem_append.1 ht with ht | ht
              · exact hw t (by simp [ht])
              · exact (kids_pm v hs hlt ht).1
            · rw [List.flatMap_append]; exact hp
            · rw [costs_app]; omega
          · simp [ltV, leV, gtV, geV, sumV, maxV, minV, allV, anyV, sortV, sNext, sSeq, sNever, sBreak, sDrop, sRet, sRetN, sIf, gN, gNl, gCn, gTp, gSb, sAsg, sPar, vVar, vC, vNil, vCons, vTup, vLst, v2, addV, intsV, ints0V, mulV, vNeg, eqV', neV', inV', isV, VL.isNon, vTest, vChain, vAnd, vOr, vNot, vAndV, vOrV, vNotV, vIf, ixV, vNo, vPart, vSl, sliceV, vLc_eq, vDc_eq, sFor_eq, sWhile_eq, iSq, iRg1, iRg2, iEn, iZp, vCB, lenV, listV, tupleV, intV1, absV1, ofInts, ofBls, two, vIsi, vM, vM0, appendV, extendV, popV, popAtV, vIndex, vDnew, vCall, sRaise, vYes, vRev, getV, startV, wipeV]
            refine ⟨by omega, by omega, ?_⟩
            have := hK _ s7
            simpa [tupI] using this
        · by_cases c1 : (s.length : Int) < o <;> by_cases c2 : o ∈ s <;> simp [ltV, leV, gtV, geV, sumV, maxV, minV, allV, anyV, sortV, sNext, sSeq, sNever, sBreak, sDrop, sRet, sRetN, sIf, gN, gNl, gCn, gTp, gSb, sAsg, sPar, vVar, vC, vNil, vCons, vTup, vLst, v2, addV, intsV, ints0V, mulV, vNeg, eqV', neV', inV', isV, VL.isNon, vTest, vChain, vAnd, vOr, vNot, vAndV, vOrV, vNotV, vIf, ixV, vNo, vPart, vSl, sliceV, vLc_eq, vDc_eq, sFor_eq, sWhile_eq, iSq, iRg1, iRg2, iEn, iZp, vCB, lenV, listV, tupleV, intV1, absV1, ofInts, ofBls, two, vIsi, vM, vM0, appendV, extendV, popV, popAtV, vIndex, vDnew, vCall, sRaise, vYes, vRev, getV, startV, wipeV, okDs_ints, okD, inU_ints, c1, c2] at hK ⊢ <;> exact hK _ s3
end K75

-- part B7
set_option Elab.async false
set_option linter.all false
set_option maxRecDepth 100000
set_option maxHeartbeats 1000000
/-! Plain laws, part 7: steady mates. -/
namespace K75
open PySem PySem.Spec PyProof.Rows L2 VL
def okM (W : List (List Int)) (m : List Int) : Bool := decide (blkL W m = [])
def stL (W : List (List Int)) : List (List Int) := (allL W).filter (okM W)
theorem f_all_mates {W : List (List Int)} {vh : VH} {R : U → VH → Prop} {Z : XV} (v : VW W) (h : newL vh ((allL W).map tupI) R) : F_all_mates_by [WU W] vh R Z := ⟨W, rfl, v, h⟩
theorem f_blocks_by {W : List (List Int)} {m : List Int} {vh : VH} {R : U → VH → Prop} {Z : XV} (v : VW W) (g : GM W m) (h : newL vh ((blkL W m).map tupI) R) : F_blocks_by [WU W, tupI m] vh R Z := ⟨W, m, rfl, v, g, h⟩
def F_all_steady_by : FV := fun us vh R _ => ∃ W, us = [WU W] ∧ VW W ∧ newL vh ((stL W).map tupI) R
theorem b_all_steady_by {S : SS} : BodyV F_all_steady_by 2 1 (t_all_steady_by S F_all_mates_by F_blocks_by) := by
  rintro us vh R Z hl ⟨W, rfl, v, r⟩
  clear hl
  have hz := sz1m
  have hl := all_len v
  simp [t_all_steady_by, ltV, leV, gtV, geV, sumV, maxV, minV, allV, anyV, sortV, sNext, sSeq, sNever, sBreak, sDrop, sRet, sRetN, sIf, gN, gNl, gCn, gTp, gSb, sAsg, sPar, vVar, vC, vNil, vCons, vTup, vLst, v2, addV, intsV, ints0V, mulV, vNeg, eqV', neV', inV', isV, VL.isNon, vTest, vChain, vAnd, vOr, vNot, vAndV, vOrV, vNotV, vIf, ixV, vNo, vPart, vSl, sliceV, vLc_eq, vDc_eq, sFor_eq, sWhile_eq, iSq, iRg1, iRg2, iEn, iZp, vCB, lenV, listV, tupleV, intV1, absV1, ofInts, ofBls, two, vIsi, vM, vM0, appendV, extendV, popV, popAtV, vIndex, vDnew, vCall, sRaise, vYes, vRev, getV, startV, wipeV]
  refine f_all_mates v fun p hp => ?_
  have hs : SubH vh (vput vh p (.lst ((allL W).map tupI))) := (SubH.refl _).put hp
  have e : vput vh p (.lst ((allL W).map tupI)) p = some (.lst ((allL W).map tupI)) := vput_same
  generalize vput vh p (.lst ((allL W).map tupI)) = vh1 at *
  rw [asSq_of e]
  refine LcB.subm (allL W) tupI (fun m => if okM W m = true then some (tupI m) else none) rfl (fun vh' s => asSq_of (s _ _ e)) (by omega) (fun vh2 s2 q hq => ?_) fun m hm vh2 s2 K hK => ?_
  · rw [fm_if]
    exact RD.of (r q ((hs.trans s2).no hq)) (hs.trans s2).put2
  · simp [ltV, leV, gtV, geV, sumV, maxV, minV, allV, anyV, sortV, sNext, sSeq, sNever, sBreak, sDrop, sRet, sRetN, sIf, gN, gNl, gCn, gTp, gSb, sAsg, sPar, vVar, vC, vNil, vCons, vTup, vLst, v2, addV, intsV, ints0V, mulV, vNeg, eqV', neV', inV', isV, VL.isNon, vTest, vChain, vAnd, vOr, vNot, vAndV, vOrV, vNotV, vIf, ixV, vNo, vPart, vSl, sliceV, vLc_eq, vDc_eq, sFor_eq, sWhile_eq, iSq, iRg1, iRg2, iEn, iZp, vCB, lenV, listV, tupleV, intV1, absV1, ofInts, ofBls, two, vIsi, vM, vM0, appendV, extendV, popV, popAtV, vIndex, vDnew, vCall, sRaise, vYes, vRev, getV, startV, wipeV]
    refine f_blocks_by v (all_gm v hm) fun q1 hq1 => ?_
    intro q2 hq2
    have e1 := putO (c := .lst []) (vput_same (vh := vh2) (a := q1) (c := .lst ((blkL W m).map tupI))) hq2
    refine eqR_lists (asL_of e1) asL_new (okDs_tups _) rfl ?_
    rw [eqUs_nil]
    have hK := hK _ ((s2.put' (c := .lst ((blkL W m).map tupI)) hq1).put' (c := .lst []) hq2)
    by_cases c : blkL W m = []
    · simp [okM, c] at hK ⊢; exact hK
    · simp [okM, c] at hK ⊢; exact hK
/-- wishes that are bent -/
def Bd (S : SS) (vh : VH) (u pl : U) : Prop := Kn S vh u ∧ (tupOf 0 8 u = true → ∀ x ∈ itemsU u, Kn S vh x ∧ ∀ y ∈ itemsU x, Kn S vh y) ∧ badU u = some pl
theorem f_need_bad {S : SS} {c : Addr} {u pl : U} {vh : VH} {R : U → VH → Prop} {Z : XV} (h : Bd S vh u pl) (z : Z c "place" pl vh) : F_need_wishes S c [u] vh R Z :=
  ⟨u, rfl, h.1, h.2.1, fun e => (by rw [h.2.2] at e; cases e), fun pl' e => (by rw [h.2.2] at e; cases e; exact z)⟩
theorem kn_tup {S : SS} {vh : VH} {us : List U} : Kn S vh (.tup us) := ⟨"tuple", rfl, by simp⟩
theorem kn_int {S : SS} {vh : VH} {i : Int} : Kn S vh (.int i) := ⟨"int", rfl, by simp⟩
theorem listOf_ok {W : List (List Int)} (v : VW W) {i : Int} (h0 : 0 ≤ i) (h1 : i < W.length) : listOf i W.length (tupI (wAt W i)) = true := by
  have hr := v.rg i h0 h1
  have hl : ((wAt W i).length : Int) ≤ W.length - 1 := by
    have := nd_sub (l := wAt W i) (m := (rng 0 W.length).erase i) (v.nd i h0 h1) fun x hx => (List.mem_erase_of_ne (hr x hx).2.2).2 (mem_rng.2 ⟨(hr x hx).1, (hr x hx).2.1⟩)
    rw [List.length_erase_of_mem (mem_rng.2 ⟨h0, h1⟩), rng_len] at this
    omega
  simp only [listOf, tupI, tupOf, isT, itemsU, List.length_map, inU_ints, intsU_map, Bool.true_and, Bool.and_eq_true, decide_eq_true_eq, Bool.not_eq_true', decide_eq_false_iff_not, List.all_map]
  refine ⟨⟨by omega, hl⟩, List.all_eq_true.2 fun x hx => ?_, fun hi => (hr i hi).2.2 rfl, v.nd i h0 h1⟩
  have := hr x hx
  simp [amongU]; omega
theorem zip_W {W : List (List Int)} {q : U × Nat} (h : q ∈ (W.map tupI).zipIdx) : q.2 < W.length ∧ q.1 = tupI (wAt W (q.2 : Nat)) := by
  have := zip_mem h
  rw [List.getElem?_map] at this
  cases e : W[q.2]? with
  | none => rw [e] at this; cases this
  | some l =>
    rw [e] at this
    have this : tupI l = q.1 := Option.some.inj this
    obtain ⟨a, b⟩ := List.getElem?_eq_some_iff.1 e
    exact ⟨a, by rw [← this]; simp [wAt, List.getD_eq_getElem?_getD, e]⟩
theorem bad_none {W : List (List Int)} (v : VW W) : badU (WU W) = none := by
  have h8 := v.len
  unfold badU
  rw [if_pos (by simp [tupOf, isT, itemsU]; omega)]
  rw [show itemsU (WU W) = W.map tupI from rfl, List.length_map]
  rw [List.find?_eq_none.2 fun q hq => by
    obtain ⟨a, b⟩ := zip_W hq
    rw [b, listOf_ok v (by omega) (by omega)]; simp]
  show (if _ then _ else _) = _
  rw [if_pos]
  refine List.all_eq_true.2 fun q hq => ?_
  obtain ⟨a, b⟩ := zip_W hq
  rw [b]
  unfold mutOf
  simp only [tupI, itemsU, intsU_map]
  refine List.all_eq_true.2 fun o ho => ?_
  have hr := v.rg (q.2 : Nat) (by omega) (by omega) o ho
  have e : (W.map fun ns => U.tup (ns.map U.int)).getD o.toNat .non = tupI (wAt W o) := by
    have : o.toNat < W.length := by omega
    simp [wAt, List.getD_eq_getElem?_getD, tupI, this]
  have e2 : (W.map tupI).getD o.toNat .non = tupI (wAt W o) := e
  rw [show (List.map tupI W).getD o.toNat .non = tupI (wAt W o) from e2]
  simp only [tupI, itemsU, inU_ints, decide_eq_true_eq]
  exact v.sym _ (by omega) (by omega) o ho
theorem f_need_ok {S : SS} {c : Addr} {W : List (List Int)} {vh : VH} {R : U → VH → Prop} {Z : XV} (v : VW W) (r : R (WU W) vh) : F_need_wishes S c [WU W] vh R Z :=
  ⟨WU W, rfl, kn_tup, fun _ x hx => by
    obtain ⟨l, _, rfl⟩ := List.mem_map.1 hx
    refine ⟨kn_tup, fun y hy => ?_⟩
    obtain ⟨i, _, rfl⟩ := List.mem_map.1 (show y ∈ l.map U.int from hy)
    exact kn_int, fun _ => r, fun pl e => (by rw [bad_none v] at e; cases e)⟩
theorem f_all_steady_by {W : List (List Int)} {vh : VH} {R : U → VH → Prop} {Z : XV} (v : VW W) (h : newL vh ((stL W).map tupI) R) : F_all_steady_by [WU W] vh R Z := ⟨W, rfl, v, h⟩
def F_all_steady (S : SS) (c : Addr) : FV := fun us vh R Z => (∃ W, us = [WU W] ∧ VW W ∧ R (.tup ((stL W).map tupI)) vh) ∨ ∃ u pl, us = [u] ∧ Bd S vh u pl ∧ Z c "place" pl vh
theorem b_all_steady {S : SS} {c : Addr} : BodyV (F_all_steady S c) 1 1 (t_all_steady S F_all_steady_by (F_need_wishes S c)) := by
  rintro us vh R Z hl (⟨W, rfl, v, r⟩ | ⟨u, pl, rfl, b, z⟩)
  · clear hl
    simp [t_all_steady, ltV, leV, gtV, geV, sumV, maxV, minV, allV, anyV, sortV, sNext, sSeq, sNever, sBreak, sDrop, sRet, sRetN, sIf, gN, gNl, gCn, gTp, gSb, sAsg, sPar, vVar, vC, vNil, vCons, vTup, vLst, v2, addV, intsV, ints0V, mulV, vNeg, eqV', neV', inV', isV, VL.isNon, vTest, vChain, vAnd, vOr, vNot, vAndV, vOrV, vNotV, vIf, ixV, vNo, vPart, vSl, sliceV, vLc_eq, vDc_eq, sFor_eq, sWhile_eq, iSq, iRg1, iRg2, iEn, iZp, vCB, lenV, listV, tupleV, intV1, absV1, ofInts, ofBls, two, vIsi, vM, vM0, appendV, extendV, popV, popAtV, vIndex, vDnew, vCall, sRaise, vYes, vRev, getV, startV, wipeV]
    refine f_need_ok v ?_
    refine f_all_steady_by v fun p hp => ?_
    simp [ltV, leV, gtV, geV, sumV, maxV, minV, allV, anyV, sortV, sNext, sSeq, sNever, sBreak, sDrop, sRet, sRetN, sIf, gN, gNl, gCn, gTp, gSb, sAsg, sPar, vVar, vC, vNil, vCons, vTup, vLst, v2, addV, intsV, ints0V, mulV, vNeg, eqV', neV', inV', isV, VL.isNon, vTest, vChain, vAnd, vOr, vNot, vAndV, vOrV, vNotV, vIf, ixV, vNo, vPart, vSl, sliceV, vLc_eq, vDc_eq, sFor_eq, sWhile_eq, iSq, iRg1, iRg2, iEn, iZp, vCB, lenV, listV, tupleV, intV1, absV1, ofInts, ofBls, two, vIsi, vM, vM0, appendV, extendV, popV, popAtV, vIndex, vDnew, vCall, sRaise, vYes, vRev, getV, startV, wipeV]
    exact RD.of r ((SubH.refl _).put hp)
  · clear hl
    simp [t_all_steady, ltV, leV, gtV, geV, sumV, maxV, minV, allV, anyV, sortV, sNext, sSeq, sNever, sBreak, sDrop, sRet, sRetN, sIf, gN, gNl, gCn, gTp, gSb, sAsg, sPar, vVar, vC, vNil, vCons, vTup, vLst, v2, addV, intsV, ints0V, mulV, vNeg, eqV', neV', inV', isV, VL.isNon, vTest, vChain, vAnd, vOr, vNot, vAndV, vOrV, vNotV, vIf, ixV, vNo, vPart, vSl, sliceV, vLc_eq, vDc_eq, sFor_eq, sWhile_eq, iSq, iRg1, iRg2, iEn, iZp, vCB, lenV, listV, tupleV, intV1, absV1, ofInts, ofBls, two, vIsi, vM, vM0, appendV, extendV, popV, popAtV, vIndex, vDnew, vCall, sRaise, vYes, vRev, getV, startV, wipeV]
    exact f_need_bad b (ZD.of z (.refl _))
def F_need_some (c2 : Addr) : FV := fun us vh R Z => ∃ W, us = [WU W] ∧ VW W ∧ (stL W ≠ [] → newL vh ((stL W).map tupI) R) ∧ (stL W = [] → Z c2 "value" (.str "steady") vh)
theorem b_need_some {S : SS} {c2 : Addr} : BodyV (F_need_some c2) 2 1 (t_need_some_steady S F_all_steady_by c2) := by
  rintro us vh R Z hl ⟨W, rfl, v, r, z⟩
  clear hl
  simp [t_need_some_steady, ltV, leV, gtV, geV, sumV, maxV, minV, allV, anyV, sortV, sNext, sSeq, sNever, sBreak, sDrop, sRet, sRetN, sIf, gN, gNl, gCn, gTp, gSb, sAsg, sPar, vVar, vC, vNil, vCons, vTup, vLst, v2, addV, intsV, ints0V, mulV, vNeg, eqV', neV', inV', isV, VL.isNon, vTest, vChain, vAnd, vOr, vNot, vAndV, vOrV, vNotV, vIf, ixV, vNo, vPart, vSl, sliceV, vLc_eq, vDc_eq, sFor_eq, sWhile_eq, iSq, iRg1, iRg2, iEn, iZp, vCB, lenV, listV, tupleV, intV1, absV1, ofInts, ofBls, two, vIsi, vM, vM0, appendV, extendV, popV, popAtV, vIndex, vDnew, vCall, sRaise, vYes, vRev, getV, startV, wipeV]
  refine f_all_steady_by v fun p hp q hq => ?_
  have e1 := putO (c := .lst []) (vput_same (vh := vh) (a := p) (c := .lst ((stL W).map tupI))) hq
  refine eqR_lists (asL_of e1) asL_new (okDs_tups _) rfl ?_
  rw [eqUs_nil]
  by_cases c : stL W = []
  · simp [c]
    simp [c] at hq
    exact ZD.of (z c) (((SubH.refl _).put' hp).put' hq)
  · simp [c]
    exact RD.of (r c p hp) ((SubH.refl _).put' hq)
end K75

-- part B8
set_option Elab.async false
set_option linter.all false
set_option maxRecDepth 100000
set_option maxHeartbeats 1000000
/-! Plain laws, part 8: always_alone. -/
namespace K75
open PySem PySem.Spec PyProof.Rows L2 VL
theorem f_need_some {c2 : Addr} {W : List (List Int)} {vh : VH} {R : U → VH → Prop} {Z : XV} (v : VW W) (r : stL W ≠ [] → newL vh ((stL W).map tupI) R) (z : stL W = [] → Z c2 "value" (.str "steady") vh) : F_need_some c2 [WU W] vh R Z := ⟨W, rfl, v, r, z⟩
theorem st_gm {W : List (List Int)} (v : VW W) {m : List Int} (h : m ∈ stL W) : GM W m := all_gm v (List.mem_filter.1 h).1
def al (m : List Int) : List Int := (rng 0 m.length).filter fun i => decide (i = iAt m i)
/-- how a search that begins with the checks ends -/
def Srch (S : SS) (c1 c2 : Addr) (f : List (List Int) → U) : FV := fun us vh R Z => (∃ W, us = [WU W] ∧ VW W ∧ (stL W ≠ [] → R (f W) vh) ∧ (stL W = [] → Z c2 "value" (.str "steady") vh)) ∨ ∃ u pl, us = [u] ∧ Bd S vh u pl ∧ Z c1 "place" pl vh
def F_always_alone (S : SS) (c1 c2 : Addr) : FV := Srch S c1 c2 fun W => tupI (al ((stL W).headD []))
theorem b_always_alone {S : SS} {c1 c2 : Addr} : BodyV (F_always_alone S c1 c2) 4 1 (t_always_alone S (F_need_some c2) (F_need_wishes S c1)) := by
  rintro us vh R Z hl (⟨W, rfl, v, r, z⟩ | ⟨u, pl, rfl, b, z⟩)
  · clear hl
    simp [t_always_alone, ltV, leV, gtV, geV, sumV, maxV, minV, allV, anyV, sortV, sNext, sSeq, sNever, sBreak, sDrop, sRet, sRetN, sIf, gN, gNl, gCn, gTp, gSb, sAsg, sPar, vVar, vC, vNil, vCons, vTup, vLst, v2, addV, intsV, ints0V, mulV, vNeg, eqV', neV', inV', isV, VL.isNon, vTest, vChain, vAnd, vOr, vNot, vAndV, vOrV, vNotV, vIf, ixV, vNo, vPart, vSl, sliceV, vLc_eq, vDc_eq, sFor_eq, sWhile_eq, iSq, iRg1, iRg2, iEn, iZp, vCB, lenV, listV, tupleV, intV1, absV1, ofInts, ofBls, two, vIsi, vM, vM0, appendV, extendV, popV, popAtV, vIndex, vDnew, vCall, sRaise, vYes, vRev, getV, startV, wipeV]
    refine f_need_ok v ?_
    refine f_need_some v (fun hne p hp => ?_) fun h => ZD.of (z h) (.refl _)
    have r : R (tupI (al ((stL W).headD []))) vh := r hne
    rw [asSq_new]
    cases hst : stL W with
    | nil => exact absurd hst hne
    | cons m ms =>
      rw [hst] at r
      simp only [List.headD_cons] at r
      have g := st_gm v (show m ∈ stL W by rw [hst]; simp)
      have hl8 := v.len
      have hz := sz1m
      have e0 : L2.atI ((m :: ms).map tupI) 0 = some (tupI m) := at_map (by omega) rfl
      have s1 : SubH vh (vput vh p (.lst ((m :: ms).map tupI))) := (SubH.refl _).put hp
      generalize vput vh p (.lst ((m :: ms).map tupI)) = vh1 at *
      simp only [e0]
      simp [tupI]
      rw [enum_m]
      refine LcB.subm (rng 0 m.length) _ (fun i => if decide (i = iAt m i) = true then some (.int i) else none) rfl (fun _ _ => trivial) (by rw [rng_len, g.len]; omega) (fun vh2 s2 q hq => ?_) fun i hi vh2 s2 K hK => ?_
      · rw [fm_if]
        simp
        exact RD.of r ((s1.trans s2).put' hq)
      · by_cases c : i = iAt m i
        · have hK := hK _ s2
          simp [ltV, leV, gtV, geV, sumV, maxV, minV, allV, anyV, sortV, sNext, sSeq, sNever, sBreak, sDrop, sRet, sRetN, sIf, gN, gNl, gCn, gTp, gSb, sAsg, sPar, vVar, vC, vNil, vCons, vTup, vLst, v2, addV, intsV, ints0V, mulV, vNeg, eqV', neV', inV', isV, VL.isNon, vTest, vChain, vAnd, vOr, vNot, vAndV, vOrV, vNotV, vIf, ixV, vNo, vPart, vSl, sliceV, vLc_eq, vDc_eq, sFor_eq, sWhile_eq, iSq, iRg1, iRg2, iEn, iZp, vCB, lenV, listV, tupleV, intV1, absV1, ofInts, ofBls, two, vIsi, vM, vM0, appendV, extendV, popV, popAtV, vIndex, vDnew, vCall, sRaise, vYes, vRev, getV, startV, wipeV, ← c] at hK ⊢
          exact hK
        · have hK := hK _ s2
          simp [ltV, leV, gtV, geV, sumV, maxV, minV, allV, anyV, sortV, sNext, sSeq, sNever, sBreak, sDrop, sRet, sRetN, sIf, gN, gNl, gCn, gTp, gSb, sAsg, sPar, vVar, vC, vNil, vCons, vTup, vLst, v2, addV, intsV, ints0V, mulV, vNeg, eqV', neV', inV', isV, VL.isNon, vTest, vChain, vAnd, vOr, vNot, vAndV, vOrV, vNotV, vIf, ixV, vNo, vPart, vSl, sliceV, vLc_eq, vDc_eq, sFor_eq, sWhile_eq, iSq, iRg1, iRg2, iEn, iZp, vCB, lenV, listV, tupleV, intV1, absV1, ofInts, ofBls, two, vIsi, vM, vM0, appendV, extendV, popV, popAtV, vIndex, vDnew, vCall, sRaise, vYes, vRev, getV, startV, wipeV, c] at hK ⊢
          exact hK
  · clear hl
    simp [t_always_alone, ltV, leV, gtV, geV, sumV, maxV, minV, allV, anyV, sortV, sNext, sSeq, sNever, sBreak, sDrop, sRet, sRetN, sIf, gN, gNl, gCn, gTp, gSb, sAsg, sPar, vVar, vC, vNil, vCons, vTup, vLst, v2, addV, intsV, ints0V, mulV, vNeg, eqV', neV', inV', isV, VL.isNon, vTest, vChain, vAnd, vOr, vNot, vAndV, vOrV, vNotV, vIf, ixV, vNo, vPart, vSl, sliceV, vLc_eq, vDc_eq, sFor_eq, sWhile_eq, iSq, iRg1, iRg2, iEn, iZp, vCB, lenV, listV, tupleV, intV1, absV1, ofInts, ofBls, two, vIsi, vM, vM0, appendV, extendV, popV, popAtV, vIndex, vDnew, vCall, sRaise, vYes, vRev, getV, startV, wipeV]
    exact f_need_bad b (ZD.of z (.refl _))
end K75

-- part E9
set_option Elab.async false
set_option linter.all false
set_option maxRecDepth 100000
set_option maxHeartbeats 4000000
/-! min(l, key=f) where f is a kept lambda: the loop, over the hand layer's invariant. -/
namespace VL
open PySem PySem.Spec PyProof.Rows L2 LamX
theorem un_turned {fs : List Addr} {H0 H : Hp} {h0 h h' : Heap} {it : Addr} (u : Un fs [] H0 H h0 h) (k : ∀ b o, b ≠ it → h.get? b = some o → h'.get? b = some o) (hz : h0.objs.size ≤ it) : Un fs [] H0 H h0 h' := by
  have ne : ∀ {c o}, h0.get? c = some o → c ≠ it := fun {c o} e => Nat.ne_of_lt (Nat.lt_of_lt_of_le (Heap.lt_size e) hz)
  refine ⟨fun c o e n hc hx => k c o (ne e) (u.keep c o e n hc hx), fun c o e n hc hx => ?_, u.free, fun c o e hx => ?_, u.tups, u.frzs, u.tbls⟩
  · obtain ⟨sl, q⟩ := u.slot c o e n hc hx
    exact ⟨sl, k c _ (ne e) q⟩
  · obtain ⟨o1, q⟩ := u.there c o e hx
    exact ⟨o1, k c _ (ne e) q⟩
/-- what holds between the turns -/
structure MkI (X : Cx) (pins : List (Addr × Obj)) (σ : L2.St) (s0 : Shared) (H0 : Hp) (Ψ : Hp → Prop) (S I : Addr) (s : Shared) (H : Hp) : Prop where
  inv : Inv X pins σ H s
  un : Un (frs X.stack) [] H0 H s0.heap s.heap
  psi : Ψ H
  fS : FpOk X pins H S
  fI : FpOk X pins H I
section
variable {X : Cx} {pins : List (Addr × Obj)} {σ : L2.St} {s0 : Shared} {H0 : Hp} {Ψ : Hp → Prop} {S I l f : Addr} {its : List Value} {ck : Nat → Int × PySem.W.Tup Int}
theorem MkI.turnedI {s : Shared} {H : Hp} {h' : Heap} {tk : Nat} (m : MkI X pins σ s0 H0 Ψ S I s H) (hz : s0.heap.objs.size ≤ I) (k : ∀ b o, b ≠ I → s.heap.get? b = some o → h'.get? b = some o) : MkI X pins σ s0 H0 Ψ S I { s with heap := h', toks := tk } H :=
  ⟨m.inv.turned k m.fI.1 m.fI.2.1 m.fI.2.2.2.1 m.fI.2.2.2.2.1 m.fI.2.2.2.2.2, un_turned m.un k hz, m.psi, m.fS, m.fI⟩
theorem MkI.turnedS {s : Shared} {H : Hp} {h' : Heap} {tk : Nat} (m : MkI X pins σ s0 H0 Ψ S I s H) (hz : s0.heap.objs.size ≤ S) (k : ∀ b o, b ≠ S → s.heap.get? b = some o → h'.get? b = some o) : MkI X pins σ s0 H0 Ψ S I { s with heap := h', toks := tk } H :=
  ⟨m.inv.turned k m.fS.1 m.fS.2.1 m.fS.2.2.2.1 m.fS.2.2.2.2.1 m.fS.2.2.2.2.2, un_turned m.un k hz, m.psi, m.fS, m.fI⟩
/-- the key of the i-th -/
def KeyIs (X : Cx) (H : Hp) (c : Int × PySem.W.Tup Int) (k : Value) : Prop := ∃ v, RelV v k ∧ RelU X.K H (.tup [.int c.1, tupI c.2.items]) v
theorem KeyIs.stay {H H' : Hp} {c : Int × PySem.W.Tup Int} {k : Value} (h : KeyIs X H c k) (t : TupStay H H') : KeyIs X H' c k := by
  obtain ⟨v, r, u⟩ := h
  exact ⟨v, r, u.stay t⟩
theorem okD_key (c : Int × PySem.W.Tup Int) : okD 3 (.tup [.int c.1, tupI c.2.items]) = true := by
  have : ∀ (n : Nat) (ns : List Int), okDs n (ns.map U.int) = true := fun n ns => by
    induction ns with
    | nil => simp [okDs]
    | cons a ns ih => cases n <;> simp_all [okDs, okD]
  simp [okD, okDs, tupI, this]
theorem pdUs_ints : ∀ ns : List Int, pdUs (ns.map U.int) = ns.map PyData.int
  | [] => rfl
  | n :: ns => by simp [pdUs, pdU, pdUs_ints ns]
theorem KeyIs.holds {s : Shared} {H : Hp} {c : Int × PySem.W.Tup Int} {k : Value} (Iv : Inv X pins σ H s) (h : KeyIs X H c k) : PySem.W.Holds s.heap k c := by
  obtain ⟨v, r, u⟩ := h
  have d := RelU.dp (okD_key c) u
  obtain ⟨as, q⟩ := Dp.reads Iv _ _ _ d r
  refine ⟨as, ?_⟩
  have e : pdU (.tup [.int c.1, tupI c.2.items]) = PySem.W.Datum.toD c := by
    obtain ⟨a, ⟨ns⟩⟩ := c
    simp only [pdU, pdUs, tupI, pdUs_ints]
    rfl
  rw [← e]
  exact q

theorem fp_nostk {s : Shared} {H : Hp} {b : Addr} (Iv : Inv X pins σ H s) (h : FpOk X pins H b) : b ∉ frs X.stack := fun z =>
  (List.mem_cons.mp (Iv.stkSub b z)).elim h.2.1 h.2.2.1
theorem MkI.called {s s' : Shared} {H : Hp} {k : Value} {i : Nat} {oS oI : Obj} (m : MkI X pins σ s0 H0 Ψ S I s H) (gS : s.heap.get? S = some oS) (gI : s.heap.get? I = some oI)
    (h : CE X.stack X.prog X.w H s (fun v H' => Ψ H' ∧ RelU X.K H' (.tup [.int (ck i).1, tupI (ck i).2.items]) v) k s') :
    ∃ H', MkI X pins σ s0 H0 Ψ S I s' H' ∧ s'.heap.get? S = some oS ∧ s'.heap.get? I = some oI ∧ TupStay H H' ∧ KeyIs X H' (ck i) k := by
  obtain ⟨v, H', os, bare, un, hok, r, p, q⟩ := h
  have nS := fp_nostk m.inv m.fS
  have nI := fp_nostk m.inv m.fI
  refine ⟨H', ⟨m.inv.call' (ch := []) os un hok bare (fun b z => absurd z (by simp)), m.un.trans un, p, ⟨un.free S oS gS m.fS.1 (by simp), m.fS.2⟩, ⟨un.free I oI gI m.fI.1 (by simp), m.fI.2⟩⟩, un.keep S oS gS m.fS.1 nS (by simp), un.keep I oI gI m.fI.1 nI (by simp), VL.Un.tupS un, v, r, q⟩
theorem rc_lt {prog : Program} {w : World} {A : Around} {E : Value → Shared → Prop} {s : Shared} {a b : Value} {x y : Int × PySem.W.Tup Int} {Q : Value → Shared → Prop} (Ha : PySem.W.Holds s.heap a x) (Hb : PySem.W.Holds s.heap b y) (hu : A.units + 50 < cLine) (h : Q (.bool (PySem.W.DatumOrd.lt x y)) s) :
    wpAny (model prog w) A (richCompare .Lt a b) Q E s := by
  have hd : PySem.W.Datum.depth (Int × PySem.W.Tup Int) ≤ 50 := by decide
  exact PySem.W.lt_datum Ha Hb (by omega) h
/-- the place of the first least key -/
def bestI (ck : Nat → Int × PySem.W.Tup Int) : Nat → Nat
  | 0 => 0
  | j + 1 => if PySem.W.DatumOrd.lt (ck (j + 1)) (ck (bestI ck j)) = true then j + 1 else bestI ck j
theorem mk_loop {R : Result → Shared → Prop} (hh : X.A.handled = none) (hu : X.A.units + 100 < cLine) (hlI : l ≠ I) (hSI : S ≠ I) (hzS : s0.heap.objs.size ≤ S) (hzI : s0.heap.objs.size ≤ I)
    (hl : ∀ s H, Inv X pins σ H s → Ψ H → s.heap.IsList l its.toArray)
    (turn : ∀ (i : Nat) (v : Value), its[i]? = some v → ∀ (s : Shared) (H : Hp), MkI X pins σ s0 H0 Ψ S I s H →
      wpAny (model X.prog X.w) X.A.in1 (call (.ref f) [v]) (fun k s' => CE X.stack X.prog X.w H s (fun v H' => Ψ H' ∧ RelU X.K H' (.tup [.int (ck i).1, tupI (ck i).2.items]) v) k s') (fun _ _ => False) s)
    (hR : ∀ v s' H', its[bestI ck (its.length - 1)]? = some v → MkI X pins σ s0 H0 Ψ S I s' H' → R (.ok (.ret v)) s') :
    ∀ (r j : Nat) (s : Shared) (H : Hp) (vb kb : Value) (c : Nat) (oI : Obj), its.length - (j + 1) = r → j + 1 ≤ its.length → MkI X pins σ s0 H0 Ψ S I s H → s.heap.get? S = some (seqObj "list" #[vb, kb] c) → s.heap.get? I = some oI →
      s.heap.IsListIter I l (j + 1) → its[bestI ck j]? = some vb → KeyIs X H (ck (bestI ck j)) kb →
      codeAny (model X.prog X.w) X.A (.builtin "min.loop" ⟨[.ref I, .ref f, .ref S], []⟩) R s := by
  have hname : (toString "min" ++ toString ".loop" : String) = "min.loop" := by decide
  have W := Walks.list (prog := X.prog) (w := X.w) (A := X.A.in1) hh I l hlI its.toArray
  have hsz : its.toArray.size = its.length := List.size_toArray ..
  intro r
  induction r with
  | zero =>
    intro j s H vb kb c oI hr hj M gS gI hit hvb hkb
    have hin : j + 1 = its.length := by omega
    refine codeAny_builtin PySem.F.entry_min_loop ?_
    rw [Around.under_plainId PySem.F.plain_min_loop _]
    show wpAny _ X.A.in1 (seqItems? (.ref S) >>= _) _ _ _
    refine wpAny_bind (wpAny_seqItems gS rfl ?_)
    show wpAny _ X.A.in1 (tryCatch (pyNext (.ref I)) _ >>= _) _ _ _
    refine wpAny_bind (wpAny_tryCatch (W.done _ _ _ ⟨by rw [hsz, ← hin]; exact hit, hl s H M.inv M.psi⟩ fun h' tk' hk' => ?_))
    have M1 : MkI X pins σ s0 H0 Ψ S I { s with heap := h', toks := tk' } H := M.turnedI hzI fun b o hb e => hk' b o (by simpa using hb) e
    have hS' := hk' S _ (by simpa using hSI) gS
    have s1 := Heap.SameBut.update h' S (Obj.mapSeq fun _ => (#[] : Array Value))
    show wpAny _ X.A.in1 (updateSeq S (fun _ => #[]) >>= _) _ _ _
    refine wpAny_bind ?_
    refine wpAny_updateSeq hS' rfl (wpAny_bind (wpAny_letGo (wpAny_pure ?_)))
    refine hR vb _ H (by rw [show its.length - 1 = j from by omega]; exact hvb) (M1.turnedS hzS fun b o hb e => ?_)
    exact (s1.2 b hb).trans e
  | succ r ih =>
    intro j s H vb kb c oI hr hj M gS gI hit hvb hkb
    have hlt : j + 1 < its.length := by omega
    refine codeAny_builtin PySem.F.entry_min_loop ?_
    rw [Around.under_plainId PySem.F.plain_min_loop _]
    show wpAny _ X.A.in1 (seqItems? (.ref S) >>= _) _ _ _
    refine wpAny_bind (wpAny_seqItems gS rfl ?_)
    show wpAny _ X.A.in1 (tryCatch (pyNext (.ref I)) _ >>= _) _ _ _
    refine wpAny_bind (wpAny_tryCatch (W.item (j + 1) _ _ _ (by rw [hsz]; exact hlt) ⟨hit, hl s H M.inv M.psi⟩ fun v h' tk' hP hst' hk' => ?_))
    have hv : its[j + 1]? = some v := by simpa using hP
    obtain ⟨oI', hoI', hoc, hod⟩ := id hst'.1
    have M1 : MkI X pins σ s0 H0 Ψ S I { s with heap := h', toks := tk' } H := M.turnedI hzI fun b o hb e => hk' b o (by simpa using hb) e
    have gS1 : h'.get? S = some (seqObj "list" #[vb, kb] c) := hk' S _ (by simpa using hSI) gS
    show wpAny _ X.A.in1 (tryCatch (holding [v] (call (.ref f) [v])) _ >>= _) _ _ _
    refine wpAny_bind (wpAny_tryCatch (wpAny_holding (wpAny_mono (turn (j + 1) v hv _ H M1) (fun k s2 he => ?_) fun _ _ hF => hF.elim)))
    obtain ⟨H2, M2, gS2, gI2, tst, key⟩ := M1.called gS1 hoI' he
    have hit2 : s2.heap.IsListIter I l (j + 1 + 1) := ⟨oI', gI2, hoc, hod⟩
    have kb2 := hkb.stay tst
    show wpAny _ X.A.in1 (tryCatch (holding [v, k] (richCompare .Lt k kb >>= _)) _ >>= _) _ _ _
    refine wpAny_bind (wpAny_tryCatch (wpAny_holding (wpAny_bind (rc_lt (key.holds M2.inv) (kb2.holds M2.inv) (by show X.A.units + 1 + _ < _; omega) ?_))))
    refine wpAny_bind (wpAny_holding (wpAny_truthy_bool ?_))
    refine wpAny_bind (wpAny_letGo (wpAny_pure ?_))
    by_cases hb' : PySem.W.DatumOrd.lt (ck (j + 1)) (ck (bestI ck j)) = true
    · have hbest : bestI ck (j + 1) = j + 1 := by simp only [bestI]; rw [if_pos hb']
      have s1 := Heap.SameBut.update s2.heap S (Obj.mapSeq fun _ => #[v, k])
      obtain ⟨c2, hc2⟩ : ∃ c2, (s2.heap.update S (Obj.mapSeq fun _ => #[v, k])).get? S = some (seqObj "list" #[v, k] c2) := ⟨_, get?_update_seq gS2 fun _ => #[v, k]⟩
      simp only [hb', if_true]
      refine wpAny_bind ?_
      refine wpAny_updateSeq gS2 rfl (wpAny_bind (wpAny_letGo ?_))
      rw [hname]
      refine wpAny_pure ⟨plainId_quiet PySem.F.plain_min_loop _, ih (j + 1) _ H2 v k c2 oI' (by omega) hlt (M2.turnedS hzS fun b o hb e => (s1.2 b hb).trans e) hc2 ((s1.2 I hSI.symm).trans gI2) ⟨oI', (s1.2 I hSI.symm).trans gI2, hoc, hod⟩ (by rw [hbest]; exact hv) (by rw [hbest]; exact key)⟩
    · have hbest : bestI ck (j + 1) = bestI ck j := by simp only [bestI]; rw [if_neg hb']
      simp only [hb', Bool.false_eq_true, if_false]
      refine wpAny_bind (wpAny_letGo ?_)
      rw [hname]
      refine wpAny_pure ⟨plainId_quiet PySem.F.plain_min_loop _, ih (j + 1) _ H2 vb kb c oI' (by omega) hlt M2 gS2 gI2 hit2 (by rw [hbest]; exact hvb) (by rw [hbest]; exact kb2)⟩

theorem mk_min {Q : VK} (hh : X.A.handled = none) (hu : X.A.units + 100 < cLine) (I0 : Inv X pins σ H0 s0) (p0 : Ψ H0) (hne : 0 < its.length)
    (hl : ∀ s H, Inv X pins σ H s → Ψ H → s.heap.IsList l its.toArray)
    (turn : ∀ (S I : Addr) (i : Nat) (v : Value), its[i]? = some v → ∀ (s : Shared) (H : Hp), MkI X pins σ s0 H0 Ψ S I s H →
      wpAny (model X.prog X.w) X.A.in1 (call (.ref f) [v]) (fun k s' => CE X.stack X.prog X.w H s (fun v H' => Ψ H' ∧ RelU X.K H' (.tup [.int (ck i).1, tupI (ck i).2.items]) v) k s') (fun _ _ => False) s)
    (hQ : ∀ v H', its[bestI ck (its.length - 1)]? = some v → Ψ H' → ∃ u, RelV u v ∧ Q u H') :
    wpAny (model X.prog X.w) X.A (call (.builtin "min") [.ref l] [(Str.ofString "key", .ref f)]) (EP X pins σ Q) X.xe s0 := by
  have hname : (toString "min" ++ toString ".loop" : String) = "min.loop" := by decide
  have hls := hl _ _ I0 p0
  obtain ⟨ol, hol, _⟩ := id hls
  have hll : l < s0.heap.objs.size := Heap.lt_size hol
  refine PyProof.Rows.kmk_tree PySem.F.kind_min PySem.F.plain_min PySem.F.entry_min (PyProof.Rows.kmk_min_key _ _) ?_
  show wpAny _ X.A.in1 (Builtin.Builtins.bindParams "min" ["key", "default"] 0 ⟨[], [(Str.ofString "key", .ref f)]⟩ >>= _) _ _ s0
  refine wpAny_bind (wpAny_of_eq (show Builtin.Builtins.bindParams "min" ["key", "default"] 0 ⟨[], [(Str.ofString "key", .ref f)]⟩ = pure [some (.ref f), none] from rfl) ?_)
  refine wpAny_bind (wpAny_pure ?_)
  refine wpAny_bind (wpAny_pyIter_list hls ?_)
  refine wpAny_bind (wpAny_newList ?_ (Nat.zero_le _))
  rw [hname]
  have hS : (s0.heap.push { cls := .type "list_iterator", data := .fields #[.ref l, .int 0 0] }).objs.size = s0.heap.objs.size + 1 := size_push' ..
  have hlI : l ≠ s0.heap.objs.size := Nat.ne_of_lt hll
  have hSI : (s0.heap.push { cls := .type "list_iterator", data := .fields #[.ref l, .int 0 0] }).objs.size ≠ s0.heap.objs.size := by rw [hS]; exact Nat.ne_of_gt (Nat.lt_succ_self _)
  have hzS : s0.heap.objs.size ≤ (s0.heap.push { cls := .type "list_iterator", data := .fields #[.ref l, .int 0 0] }).objs.size := by rw [hS]; exact Nat.le_succ _
  refine wpAny_pure ⟨plainId_quiet PySem.F.plain_min_loop _, ?_⟩
  have kp : ∀ b o, s0.heap.get? b = some o → ((s0.heap.push { cls := .type "list_iterator", data := .fields #[.ref l, .int 0 0] }).push (seqObj "list" #[] 0)).get? b = some o := fun b o e => Heap.get?_push_of_some _ (Heap.get?_push_of_some _ e)
  have gI : ((s0.heap.push { cls := .type "list_iterator", data := .fields #[.ref l, .int 0 0] }).push (seqObj "list" #[] 0)).get? s0.heap.objs.size = some { cls := .type "list_iterator", data := .fields #[.ref l, .int 0 0] } :=
    Heap.get?_push_of_some _ (Heap.get?_push_size _ rfl)
  have gS : ((s0.heap.push { cls := .type "list_iterator", data := .fields #[.ref l, .int 0 0] }).push (seqObj "list" #[] 0)).get? (s0.heap.push { cls := .type "list_iterator", data := .fields #[.ref l, .int 0 0] }).objs.size = some (seqObj "list" #[] 0) := Heap.get?_push_size _ rfl
  have M0 : MkI X pins σ s0 H0 Ψ (s0.heap.push { cls := .type "list_iterator", data := .fields #[.ref l, .int 0 0] }).objs.size s0.heap.objs.size { s0 with heap := ((s0.heap.push { cls := .type "list_iterator", data := .fields #[.ref l, .int 0 0] }).push (seqObj "list" #[] 0)), toks := s0.toks } H0 :=
    ⟨I0.kept kp, Un.kept kp, p0, I0.fpOk hzS (I0.hok.fresh hzS), I0.fpOk (Nat.le_refl _) (I0.hok.fresh (Nat.le_refl _))⟩
  have tn := turn (s0.heap.push { cls := .type "list_iterator", data := .fields #[.ref l, .int 0 0] }).objs.size s0.heap.objs.size
  generalize (s0.heap.push { cls := .type "list_iterator", data := .fields #[.ref l, .int 0 0] }).objs.size = S at *
  have W := Walks.list (prog := X.prog) (w := X.w) (A := X.A.in1) hh s0.heap.objs.size l hlI its.toArray
  have hsz : its.toArray.size = its.length := List.size_toArray ..
  refine codeAny_builtin PySem.F.entry_min_loop ?_
  rw [Around.under_plainId PySem.F.plain_min_loop _]
  show wpAny _ X.A.in1 (seqItems? (.ref S) >>= _) _ _ _
  refine wpAny_bind (wpAny_seqItems gS rfl ?_)
  show wpAny _ X.A.in1 (tryCatch (pyNext (.ref s0.heap.objs.size)) _ >>= _) _ _ _
  refine wpAny_bind (wpAny_tryCatch (W.item 0 _ _ _ (by rw [hsz]; exact hne) ⟨⟨_, gI, rfl, rfl⟩, hl _ _ M0.inv p0⟩ fun v h' tk' hP hst' hk' => ?_))
  have hv : its[0]? = some v := by simpa using hP
  obtain ⟨oI', hoI', hoc, hod⟩ := id hst'.1
  have M1 := M0.turnedI (h' := h') (tk := tk') (Nat.le_refl _) fun b o hb e => hk' b o (by simpa using hb) e
  have gS1 : h'.get? S = some (seqObj "list" #[] 0) := hk' S _ (by simpa using hSI) gS
  show wpAny _ X.A.in1 (tryCatch (holding [v] (call (.ref f) [v])) _ >>= _) _ _ _
  refine wpAny_bind (wpAny_tryCatch (wpAny_holding (wpAny_mono (tn 0 v hv _ H0 M1) (fun k s2 he => ?_) fun _ _ hF => hF.elim)))
  obtain ⟨H2, M2, gS2, gI2, tst, key⟩ := M1.called gS1 hoI' he
  have s1 := Heap.SameBut.update s2.heap S (Obj.mapSeq fun _ => #[v, k])
  obtain ⟨c2, hc2⟩ : ∃ c2, (s2.heap.update S (Obj.mapSeq fun _ => #[v, k])).get? S = some (seqObj "list" #[v, k] c2) := ⟨_, get?_update_seq gS2 fun _ => #[v, k]⟩
  show wpAny _ X.A.in1 (updateSeq S (fun _ => #[v, k]) >>= _) _ _ _
  refine wpAny_bind ?_
  refine wpAny_updateSeq gS2 rfl ?_
  rw [hname]
  refine wpAny_pure ⟨plainId_quiet PySem.F.plain_min_loop _, mk_loop (Ψ := Ψ) hh hu hlI hSI hzS (Nat.le_refl _) hl tn (fun v s' H' hv M => ?_) _ 0 _ H2 v k c2 oI' rfl hne (M2.turnedS hzS fun b o hb e => (s1.2 b hb).trans e) hc2 ((s1.2 _ hSI.symm).trans gI2) ⟨oI', (s1.2 _ hSI.symm).trans gI2, hoc, hod⟩ hv key⟩
  obtain ⟨u, r, q⟩ := hQ v H' hv M.psi
  exact ⟨u, H', M.inv, r, q⟩
end
end VL

-- part E10
set_option Elab.async false
set_option linter.all false
set_option maxRecDepth 100000
set_option maxHeartbeats 4000000
/-! min(l, key=lambda ..), by values. -/
namespace VL
open PySem PySem.Spec PyProof.Rows L2 LamX
def vdrop (vh : VH) (l : Addr) : VH := fun b => if b = l then none else vh b
theorem vdrop_sub {vh : VH} {l : Addr} : SubH (vdrop vh l) vh := fun b c e => by
  unfold vdrop at e
  split at e
  · cases e
  · exact e
theorem vdrop_self {vh : VH} {l : Addr} : vdrop vh l l = none := if_pos rfl
theorem RelH.sub {W : Wd} {H : Hp} {a b : VH} (r : RelH W H b) (s : SubH a b) : RelH W H a := ⟨fun x c e => r.cel x c (s x c e), r.tab, r.sta⟩
theorem subH_no {a b : VH} {p : Addr} (h : SubH a b) (n : b p = none) : a p = none := by
  cases e : a p with
  | none => rfl
  | some c => rw [h _ _ e] at n; cases n
theorem Stp.pre {W : Wd} {H H' : Hp} {a b c : VH} (t : Stp W H a H' c) (s : SubH a b) : Stp W H b H' c :=
  ⟨t.tup, fun x o h n v => t.fr x o h n (subH_no s v), t.liv, fun x v h => t.dom x (subH_no s v) h, t.rel⟩
section
variable {X : Cx} {P : Pk} {E : XK} {c Pa : Addr} {params : Arguments} {body : Expr} {scope : Scope} {e : Expr} {te tb : TV} {k : Nat} {x : Str} {p pos lp kp : Pos}
def MinC (mk : Addr → Clo) (tb : TV) (Γ : EV) (R : U → VH → Prop) (u : U) (vh1 : VH) : Prop := ∃ l us ck, u = .ref l ∧ ownL vh1 u = some (l, us) ∧ 0 < us.length ∧ (∀ y ∈ us, ∃ ms, y = U.tup ms) ∧
  (∀ f c', vh1 f = none → ∀ i y, us[i]? = some y → ∀ vh', SubH (vput (vdrop vh1 l) f (cloF f (mk c'))) vh' → tb (Γ ++ [some y]) vh' (fun kv vh'' => SubH (vput (vdrop vh1 l) f (cloF f (mk c'))) vh'' ∧ kv = .tup [.int (ck i : Int × PySem.W.Tup Int).1, tupI (ck i).2.items]) Z0) ∧
  ∀ y vh', us[bestI ck (us.length - 1)]? = some y → SubH (vdrop vh1 l) vh' → R y vh'
def vMinK (te : TV) (mk : Addr → Clo) (tb : TV) : TV := fun Γ vh R Z => te Γ vh (fun u vh1 => MinC mk tb Γ R u vh1) Z
theorem rel_refs {K : PySem.W.Frag} {H : Hp} : ∀ {us : List U} {vs : List V}, (∀ y ∈ us, ∃ ms, y = U.tup ms) → RelUs K H us vs → ∃ as : List Addr, vs = as.map V.ref
  | [], _, _, r => ⟨[], by cases (show _ = [] from r); rfl⟩
  | u :: us, _, h, r => by
    obtain ⟨v, r', rfl, r1, r2⟩ := r
    obtain ⟨ms, rfl⟩ := h u (by simp)
    obtain ⟨a, _, rfl, _⟩ := r1
    obtain ⟨as, rfl⟩ := rel_refs (fun y hy => h y (by simp [hy])) r2
    exact ⟨a :: as, rfl⟩
theorem vals_refs : ∀ {as : List Addr} {us : List Value}, Vals (as.map V.ref) us → us = as.map Value.ref
  | [], _, .nil => rfl
  | a :: as, _, .cons r rs => by
    rw [vals_refs rs]
    cases r
    rfl

theorem ve_minK (hc : X.A.handled = none) (hg : Gl X "min") (hmn : X.mg "min" = none) (hr : Room (k + 2) X.A) (TB : TabB X.base X.mg c Pa) (hcode : X.env.code = .ref c) (hm : (Pa, X.env.qual ++ "<lambda>") ∈ P.T) (hu : ∀ p ∈ P.T, p.1 = Pa → p.2 = X.env.qual ++ "<lambda>")
    (L : CloS X.N X.env.scope scope [x]) (hb : ∀ c', CloB ⟨X.env.qual ++ "<lambda>", params, body, scope, cloFrom X.env.cells scope.names [], c', none⟩ [x] 1 fun vs => vs) (he : VE X P E e te)
    (hbody : ∀ (A : Around) (outer : List Env) (s : Shared) (H : Hp) (E : XK) (f c' : Addr), Room k (A.deeper (lamEnv X scope s.heap.objs.size f c')) → VE (cloCx X A outer s H E scope f c' [x]) P E0 body tb)
    (hdef : defaultsOf params X.env = ([], []) := by rfl) (hst : starEach [e] X.env = (false, eval e X.env) :: starEach [] X.env := by rfl)
    (he1 : backTo pos (starEach [e] X.env) = (false, eval e X.env) :: backTo pos (starEach [] X.env) := by rfl) (hpl : (backTo pos (starEach [e] X.env)).any (·.1) = false := by rfl)
    (hall : (backToKw pos (keywordEach [⟨some "key", .Lambda params body scope lp, kp⟩] X.env)).all (·.1.isSome) = true := by rfl) (hnone : (backToKw pos (keywordEach [⟨some "key", .Lambda params body scope lp, kp⟩] X.env)).any (·.1.isNone) = false := by rfl)
    (hks : (backToKw pos (keywordEach [⟨some "key", .Lambda params body scope lp, kp⟩] X.env)).filterMap (·.1) = [Str.ofString "key"] := by rfl) :
    VE X P E (.Call (.Name "min" p) [e] [⟨some "key", .Lambda params body scope lp, kp⟩] pos) (vMinK te (fun c' => ⟨X.env.qual ++ "<lambda>", params, body, scope, cloFrom X.env.cells scope.names [], c', none⟩) tb) := by
  refine ⟨fun pins s σ H Q I ⟨Γ, vh, R, Z, gg, rh, q, k', x'⟩ => ?_⟩
  refine wpAny_Call_Name_kw (ld_blt (u := .builtin "min") I hg hmn (by rfl) ?_ (by decide) (by decide))
  have ha : VA X P E [e] (vCons te vNil) := va_cons he va_nil hst
  have hk : VK' X P E [⟨some "key", .Lambda params body scope lp, kp⟩] (vCons (vLam fun c' => ⟨X.env.qual ++ "<lambda>", params, body, scope, cloFrom X.env.cells scope.names [], c', none⟩) vNil) := vk_cons (ve_lam TB hcode hm hu L hdef) vk_nil
  refine PyProof.Rows.callWith_kw (thn (ha.run pos pins s σ H (fun vs H1 => ∃ u vh1, Stp (wd X P) H vh H1 vh1 ∧ RelUs X.K H1 [u] vs ∧ MinC (fun c' => ⟨X.env.qual ++ "<lambda>", params, body, scope, cloFrom X.env.cells scope.names [], c', none⟩) tb Γ R u vh1) I
    ⟨Γ, vh, fun us vh1 => match us with | [u] => MinC (fun c' => ⟨X.env.qual ++ "<lambda>", params, body, scope, cloFrom X.env.cells scope.names [], c', none⟩) tb Γ R u vh1 | _ => False, Z, gg, rh, q, fun us vh1 q1 vs H1 s1 r1 => ?_, x'⟩) fun us1 s1 ⟨vs, H1, I1, rv1, u, vh1, st1, r1, l, us, ck, e1, q1, hn, ht, hB, hR⟩ => ?_) he1 hpl hall hnone
  · match us, q1, r1 with
    | [u], q1, r1 => exact ⟨u, vh1, s1, r1, q1⟩
  subst e1
  have e1 : vs = [.ref l] := by
    obtain ⟨v, r', rfl, r2, r3⟩ := r1
    cases (show r' = [] from r3)
    rw [show v = .ref l from r2]
  subst e1
  have e1 := Vals.ref1 rv1
  subst e1
  refine thn (hk.run pos pins s1 σ H1 (fun zs H2 => ∃ f c', vh1 f = none ∧ Stp (wd X P) H1 vh1 H2 (vput vh1 f (cloF f ⟨X.env.qual ++ "<lambda>", params, body, scope, cloFrom X.env.cells scope.names [], c', none⟩)) ∧ zs = [.ref f]) I1 ⟨Γ, vh1, fun us vh2 => ∃ f c', vh1 f = none ∧ us = [.ref f] ∧ vh2 = vput vh1 f (cloF f ⟨X.env.qual ++ "<lambda>", params, body, scope, cloFrom X.env.cells scope.names [], c', none⟩), Z0, gg.stay st1.tup, st1.rel, fun f c' n => ⟨f, c', n, rfl, rfl⟩, fun us2 vh2 ⟨f, c', n, e2, e3⟩ vs2 H2 s2 r2 => ?_, LX.none⟩) fun ws s2 ⟨zs, H2, I2, rv2, f, c', n, st2, e2⟩ => ?_
  · subst e2 e3
    obtain ⟨v, r', rfl, r3, r4⟩ := r2
    cases (show r' = [] from r4)
    exact ⟨f, c', n, s2, by rw [show v = .ref f from r3]⟩
  subst e2
  have e2 := Vals.ref1 rv2
  subst e2
  rw [hks]
  show wpAny (model X.prog X.w) X.A (call (.builtin "min") [.ref l] [(Str.ofString "key", .ref f)]) (EP X pins σ Q) X.xe s2
  obtain ⟨_, hv1, vs1, hH1, rvs1⟩ := ownL.at st1.rel q1 (v := .ref l) rfl
  have hlf : l ≠ f := fun z => by subst z; rw [hv1] at n; cases n
  have rel2 := st2.rel
  have hsub : SubH (vput (vdrop vh1 l) f (cloF f ⟨X.env.qual ++ "<lambda>", params, body, scope, cloFrom X.env.cells scope.names [], c', none⟩)) (vput vh1 f (cloF f ⟨X.env.qual ++ "<lambda>", params, body, scope, cloFrom X.env.cells scope.names [], c', none⟩)) := vdrop_sub.put2
  obtain ⟨vs2, hH2, rvs2⟩ := rel2.cel l (.lst us) (by rw [vput_ne hlf]; exact hv1)
  obtain ⟨as, rfl⟩ := rel_refs ht rvs2
  have hw0l : (vput (vdrop vh1 l) f (cloF f ⟨X.env.qual ++ "<lambda>", params, body, scope, cloFrom X.env.cells scope.names [], c', none⟩)) l = none := by rw [vput_ne hlf]; exact vdrop_self
  have hw0f : (vput (vdrop vh1 l) f (cloF f ⟨X.env.qual ++ "<lambda>", params, body, scope, cloFrom X.env.cells scope.names [], c', none⟩)) f = some (cloF f ⟨X.env.qual ++ "<lambda>", params, body, scope, cloFrom X.env.cells scope.names [], c', none⟩) := vput_same
  have hw0 : SubH (vdrop vh1 l) (vput (vdrop vh1 l) f (cloF f ⟨X.env.qual ++ "<lambda>", params, body, scope, cloFrom X.env.cells scope.names [], c', none⟩)) := (SubH.refl _).put (by unfold vdrop; rw [if_neg (Ne.symm hlf)]; exact n)
  have hB := hB f c' n
  generalize hw : vput (vdrop vh1 l) f (cloF f ⟨X.env.qual ++ "<lambda>", params, body, scope, cloFrom X.env.cells scope.names [], c', none⟩) = w0 at *
  have rel0 : RelH (wd X P) H2 w0 := rel2.sub hsub
  have hlen : as.length = us.length := by have := rvs2.len; simpa using this
  have thk := clo_thk (k := k) (tb := fun E => lE (wd X P) E0 tb) I2 L (hb c') (fun A outer s H E hr => hbody A outer s H E f c' hr)
  refine mk_min (Ψ := fun H => ∃ vh', Stp (wd X P) H2 w0 H vh' ∧ SubH w0 vh') (its := as.map Value.ref) (ck := ck) hc (by have := hr.un; omega) I2 ⟨w0, .refl rel0, .refl _⟩ (by simpa [hlen] using hn) (fun s H Iv ⟨vh', t, _⟩ => ?_) (fun S Ia i v hv s H M => ?_) fun v H' hv ⟨vh', t, sb⟩ => ?_
  · have hl' : H l = some (.lst (as.map V.ref)) := t.fr l _ hH2 (fun _ z => by cases z) hw0l
    obtain ⟨its, rv, hp, _⟩ := Iv.list (.inl (.inl hl'))
    rw [← vals_refs rv]
    exact hp.isList
  · obtain ⟨vh', t, sb⟩ := M.psi
    rw [List.getElem?_map] at hv
    obtain ⟨a, ha', e3⟩ := Option.map_eq_some_iff.mp hv
    subst e3
    have hlt : i < us.length := by rw [← hlen]; exact (List.getElem?_eq_some_iff.mp ha').1
    obtain ⟨y, hy⟩ : ∃ y, us[i]? = some y := ⟨_, List.getElem?_eq_getElem hlt⟩
    obtain ⟨vv, hvv, ry⟩ := rvs2.get hy
    have evv : vv = .ref a := by rw [List.getElem?_map, ha'] at hvv; cases hvv; rfl
    subst evv
    have rc := thk X.A.in1 X.stack s H [.ref a] [.ref a] (fun v H' => (∃ vh', Stp (wd X P) H2 w0 H' vh' ∧ SubH w0 vh') ∧ RelU X.K H' (.tup [.int (ck i).1, tupI (ck i).2.items]) v) E0 (by exact hr.in1) M.inv.env0.in1 M.un (.cons rfl .nil) ⟨rfl, cloF_at t.rel (sb _ _ hw0f), ?_⟩
    · refine wpAny_call (codeAny_mono rc fun r s3 hq => ?_)
      cases r with
      | error er =>
        obtain ⟨_, _, _, _, _, _, _, _, _, _, _, _, z⟩ := hq
        exact z.elim
      | ok fl =>
        cases fl with
        | ret u => exact hq
        | next => exact False.elim hq
        | brk => exact False.elim hq
        | cont => exact False.elim hq
    · have tt := st1.tup.trans (st2.tup.trans t.tup)
      refine ⟨Γ ++ [some y], vh', _, Z0, (gg.stay tt).app (us := [y]) (vs := [.ref a]) (RelUs.cons (ry.stay t.tup) RelUs.nil), t.rel, hB i y hy vh' sb, fun kv vh2 ⟨s4, e4⟩ v H' s5 r5 => ?_, LX.none⟩
      subst e4
      exact ⟨⟨vh2, t.trans s5, s4⟩, r5⟩
  · rw [List.getElem?_map, List.length_map, hlen] at hv
    obtain ⟨a, ha', e3⟩ := Option.map_eq_some_iff.mp hv
    subst e3
    have hlt : bestI ck (us.length - 1) < us.length := by have := (List.getElem?_eq_some_iff.mp ha').1; omega
    obtain ⟨y, hy⟩ : ∃ y, us[bestI ck (us.length - 1)]? = some y := ⟨_, List.getElem?_eq_getElem hlt⟩
    obtain ⟨vv, hvv, ry⟩ := rvs2.get hy
    have evv : vv = .ref a := by rw [List.getElem?_map, ha'] at hvv; cases hvv; rfl
    subst evv
    refine ⟨.ref a, rfl, k' y vh' (hR y vh' hy (hw0.trans sb)) _ _ (st1.trans ((st2.trans ((Stp.refl rel2).trans (t.pre hsub))))) (ry.stay t.tup)⟩

/-- exceptions of a lambda's body pass -/
theorem passL {A : Around} {outer : List Env} {s : Shared} {H : Hp} {E : XK} {f c' : Addr} {ps : List Str} : PassV (cloCx X A outer s H E scope f c' ps) E := pass_of (takes_of rfl rfl rfl rfl)
end
end VL

-- part A4
set_option Elab.async false
set_option linter.all false
set_option maxRecDepth 100000
set_option maxHeartbeats 4000000
namespace K75
open PySem PySem.Spec PyProof.Rows L2 VL LamX
section
variable {P : Program} {w : World} {K : PySem.W.Frag} {mg : Str → Option Value} {base : Heap} {Pd : Pk}
abbrev s_cheapest_steady : Stmt := topS 23
theorem sc_cheapest_steady : FnScope ["wishes", "found"] ["wishes"] (L2.defScope s_cheapest_steady) := ⟨rfl, rfl, rfl, by decide +kernel, rfl, by decide +kernel, by decide +kernel⟩
def t_cheapest_steady (S : Option (Addr × List Int)) (F_need_some_steady F_need_wishes F_ranks_by : FV) (mk_ : Addr → Clo) : TVs :=
  (sSeq (sAsg (vCall F_need_some_steady 1 (vCons (vCall F_need_wishes 1 (vCons (vVar 0) vNil)) vNil)) (gN 1))
    (sSeq (sRet (vMinK (vVar 1) mk_ (vTup (vCons (vCB S sumV (vCons (vCall F_ranks_by 2 (vCons (vVar 0) (vCons (vVar 2) vNil))) vNil)) (vCons (vVar 2) vNil)))))
    sNext))
theorem v_cheapest_steady {f_need_some_steady : Addr} {fd_need_some_steady : FuncData} {F_need_some_steady : FV} (o_need_some_steady : DOk P w K mg base Pd 5 "need_some_steady" f_need_some_steady fd_need_some_steady ["wishes"] F_need_some_steady) {f_need_wishes : Addr} {fd_need_wishes : FuncData} {F_need_wishes : FV} (o_need_wishes : DOk P w K mg base Pd 4 "need_wishes" f_need_wishes fd_need_wishes ["wishes"] F_need_wishes) {f_ranks_by : Addr} {fd_ranks_by : FuncData} {F_ranks_by : FV} (o_ranks_by : DOk P w K mg base Pd 2 "ranks_by" f_ranks_by fd_ranks_by ["wishes", "mates"] F_ranks_by) (b_min : mg "min" = none) (b_sum : mg "sum" = none) {cA Pa : Addr} (tb_ : TabB base mg cA Pa) (hT_ : (Pa, ("cheapest_steady.<locals>." : Str) ++ "<lambda>") ∈ Pd.T) (hU_ : ∀ p ∈ Pd.T, p.1 = Pa → p.2 = ("cheapest_steady.<locals>." : Str) ++ "<lambda>") (cdv : Value) (hcd_ : cdv = .ref cA) (f : Addr) (A : Around) (outer : List Env) (s : Shared) (H : Hp) (E : XK) (hr : Room 5 (A.deeper (envOfC "cheapest_steady" (L2.defScope s_cheapest_steady) s.heap.objs.size f cdv))) :
    ∃ mk, VSs (cxV P w K mg base ["wishes", "found"] "cheapest_steady" (L2.defScope s_cheapest_steady) f cdv A outer s H E) Pd E (L2.defBody s_cheapest_steady) (t_cheapest_steady Pd.S F_need_some_steady F_need_wishes F_ranks_by mk) :=
  ⟨_, (vss_cons (vs_set (i := 1) sc_cheapest_steady.nd rfl (.inl rfl) (ve_call o_need_some_steady.ok (hr.mono (by decide)) (by rfl) o_need_some_steady.at_ o_need_some_steady.kp o_need_some_steady.b passC (va_cons (ve_call o_need_wishes.ok (hr.mono (by decide)) (by rfl) o_need_wishes.at_ o_need_wishes.kp o_need_wishes.b passC (va_cons (vv 0) va_nil)) va_nil)))
    (vss_cons (vs_ret (ve_minK (k := 2) (x := "mates") hr.hd (by rfl) b_min (hr.mono (by decide)) tb_ hcd_ hT_ hU_ (cloS_by (by rfl)) (fun _ => cloB_all rfl rfl fun _ _ _ _ _ _ us h => by match us, h with | [u], _ => rfl) (vv 1) (fun _ _ _ _ _ _ _ hr2 => (ve_tup (va_cons (ve_sum rfl (by rfl) b_sum (va_cons (ve_call o_ranks_by.ok (hr2.mono (by decide)) (by rfl) o_ranks_by.at_ o_ranks_by.kp o_ranks_by.b pass0 (va_cons (vv 0) (va_cons (vv 2) va_nil))) va_nil)) (va_cons (vv 2) va_nil))))))
    vss_nil))⟩
abbrev s_kindest_steady : Stmt := topS 24
theorem sc_kindest_steady : FnScope ["wishes", "found"] ["wishes"] (L2.defScope s_kindest_steady) := ⟨rfl, rfl, rfl, by decide +kernel, rfl, by decide +kernel, by decide +kernel⟩
def t_kindest_steady (S : Option (Addr × List Int)) (F_need_some_steady F_need_wishes F_ranks_by : FV) (mk_ : Addr → Clo) : TVs :=
  (sSeq (sAsg (vCall F_need_some_steady 1 (vCons (vCall F_need_wishes 1 (vCons (vVar 0) vNil)) vNil)) (gN 1))
    (sSeq (sRet (vMinK (vVar 1) mk_ (vTup (vCons (vCB S maxV (vCons (v2 S addV (vLst (vCons (vC (.int 0)) vNil)) (vCall F_ranks_by 2 (vCons (vVar 0) (vCons (vVar 2) vNil)))) vNil)) (vCons (vVar 2) vNil)))))
    sNext))
theorem v_kindest_steady {f_need_some_steady : Addr} {fd_need_some_steady : FuncData} {F_need_some_steady : FV} (o_need_some_steady : DOk P w K mg base Pd 5 "need_some_steady" f_need_some_steady fd_need_some_steady ["wishes"] F_need_some_steady) {f_need_wishes : Addr} {fd_need_wishes : FuncData} {F_need_wishes : FV} (o_need_wishes : DOk P w K mg base Pd 4 "need_wishes" f_need_wishes fd_need_wishes ["wishes"] F_need_wishes) {f_ranks_by : Addr} {fd_ranks_by : FuncData} {F_ranks_by : FV} (o_ranks_by : DOk P w K mg base Pd 2 "ranks_by" f_ranks_by fd_ranks_by ["wishes", "mates"] F_ranks_by) (b_max : mg "max" = none) (b_min : mg "min" = none) {cA Pa : Addr} (tb_ : TabB base mg cA Pa) (hT_ : (Pa, ("kindest_steady.<locals>." : Str) ++ "<lambda>") ∈ Pd.T) (hU_ : ∀ p ∈ Pd.T, p.1 = Pa → p.2 = ("kindest_steady.<locals>." : Str) ++ "<lambda>") (cdv : Value) (hcd_ : cdv = .ref cA) (f : Addr) (A : Around) (outer : List Env) (s : Shared) (H : Hp) (E : XK) (hr : Room 5 (A.deeper (envOfC "kindest_steady" (L2.defScope s_kindest_steady) s.heap.objs.size f cdv))) :
    ∃ mk, VSs (cxV P w K mg base ["wishes", "found"] "kindest_steady" (L2.defScope s_kindest_steady) f cdv A outer s H E) Pd E (L2.defBody s_kindest_steady) (t_kindest_steady Pd.S F_need_some_steady F_need_wishes F_ranks_by mk) :=
  ⟨_, (vss_cons (vs_set (i := 1) sc_kindest_steady.nd rfl (.inl rfl) (ve_call o_need_some_steady.ok (hr.mono (by decide)) (by rfl) o_need_some_steady.at_ o_need_some_steady.kp o_need_some_steady.b passC (va_cons (ve_call o_need_wishes.ok (hr.mono (by decide)) (by rfl) o_need_wishes.at_ o_need_wishes.kp o_need_wishes.b passC (va_cons (vv 0) va_nil)) va_nil)))
    (vss_cons (vs_ret (ve_minK (k := 2) (x := "mates") hr.hd (by rfl) b_min (hr.mono (by decide)) tb_ hcd_ hT_ hU_ (cloS_by (by rfl)) (fun _ => cloB_all rfl rfl fun _ _ _ _ _ _ us h => by match us, h with | [u], _ => rfl) (vv 1) (fun _ _ _ _ _ _ _ hr2 => (ve_tup (va_cons (ve_max rfl (by rfl) b_max (va_cons (ve_add (ve_lst (va_cons ve_int va_nil)) (ve_call o_ranks_by.ok (hr2.mono (by decide)) (by rfl) o_ranks_by.at_ o_ranks_by.kp o_ranks_by.b pass0 (va_cons (vv 0) (va_cons (vv 2) va_nil)))) va_nil)) (va_cons (vv 2) va_nil))))))
    vss_nil))⟩
end
end K75

-- part B9
set_option Elab.async false
set_option linter.all false
set_option maxRecDepth 100000
set_option maxHeartbeats 1000000
/-! Plain laws, part 9: cheapest_steady, kindest_steady. -/
namespace K75
open PySem PySem.Spec PyProof.Rows L2 VL LamX
theorem f_ranks_by {W : List (List Int)} {m : List Int} {vh : VH} {R : U → VH → Prop} {Z : XV} (v : VW W) (g : GM W m) (h : newL vh ((rksL W m).map U.int) R) : F_ranks_by [WU W, tupI m] vh R Z := ⟨W, m, rfl, v, g, h⟩
def stAt (W : List (List Int)) (i : Nat) : List Int := (stL W).getD i []
def ckC (W : List (List Int)) (i : Nat) : Int × PySem.W.Tup Int := ((rksL W (stAt W i)).sum, ⟨stAt W i⟩)
def cheap (W : List (List Int)) : List Int := stAt W (bestI (ckC W) ((stL W).length - 1))
def F_cheapest (S : SS) (c1 c2 : Addr) : FV := Srch S c1 c2 fun W => tupI (cheap W)
theorem stAt_of {W : List (List Int)} {i : Nat} {m : List Int} (h : (stL W)[i]? = some m) : stAt W i = m := by unfold stAt; rw [List.getD_eq_getElem?_getD, h]; rfl
theorem tupI_ex (l : List (List Int)) : ∀ y ∈ l.map tupI, ∃ ms, y = U.tup ms := fun y hy => by
  obtain ⟨m, _, rfl⟩ := List.mem_map.1 hy
  exact ⟨_, rfl⟩
theorem b_cheapest {S : SS} {c1 c2 : Addr} {mk : Addr → Clo} : BodyV (F_cheapest S c1 c2) 2 1 (t_cheapest_steady S (F_need_some c2) (F_need_wishes S c1) F_ranks_by mk) := by
  rintro us vh R Z hl (⟨W, rfl, v, r, z⟩ | ⟨u, pl, rfl, b, z⟩)
  · clear hl
    simp [t_cheapest_steady, ltV, leV, gtV, geV, sumV, maxV, minV, allV, anyV, sortV, sNext, sSeq, sNever, sBreak, sDrop, sRet, sRetN, sIf, gN, gNl, gCn, gTp, gSb, sAsg, sPar, vVar, vC, vNil, vCons, vTup, vLst, v2, addV, intsV, ints0V, mulV, vNeg, eqV', neV', inV', isV, VL.isNon, vTest, vChain, vAnd, vOr, vNot, vAndV, vOrV, vNotV, vIf, ixV, vNo, vPart, vSl, sliceV, vLc_eq, vDc_eq, sFor_eq, sWhile_eq, iSq, iRg1, iRg2, iEn, iZp, vCB, lenV, listV, tupleV, intV1, absV1, ofInts, ofBls, two, vIsi, vM, vM0, appendV, extendV, popV, popAtV, vIndex, vDnew, vCall, sRaise, vYes, vRev, getV, startV, wipeV]
    refine f_need_ok v ?_
    refine f_need_some v (fun hne p hp => ?_) fun h => ZD.of (z h) (.refl _)
    have r : R (tupI (cheap W)) vh := r hne
    simp only [vMinK, ltV, leV, gtV, geV, sumV, maxV, minV, allV, anyV, sortV, sNext, sSeq, sNever, sBreak, sDrop, sRet, sRetN, sIf, gN, gNl, gCn, gTp, gSb, sAsg, sPar, vVar, vC, vNil, vCons, vTup, vLst, v2, addV, intsV, ints0V, mulV, vNeg, eqV', neV', inV', isV, VL.isNon, vTest, vChain, vAnd, vOr, vNot, vAndV, vOrV, vNotV, vIf, ixV, vNo, vPart, vSl, sliceV, vLc_eq, vDc_eq, sFor_eq, sWhile_eq, iSq, iRg1, iRg2, iEn, iZp, vCB, lenV, listV, tupleV, intV1, absV1, ofInts, ofBls, two, vIsi, vM, vM0, appendV, extendV, popV, popAtV, vIndex, vDnew, vCall, sRaise, vYes, vRev, getV, startV, wipeV, List.getElem?_cons_zero, List.getElem?_cons_succ, List.set]
    have hpos : 0 < (stL W).length := List.length_pos_iff.2 hne
    refine ⟨p, (stL W).map tupI, ckC W, rfl, ownL_new, by simpa using hpos, tupI_ex _, fun f c' hf i y hy vh' s' => ?_, fun y vh' hy s' => ?_⟩
    · rw [List.getElem?_map] at hy
      obtain ⟨m, hm, rfl⟩ := Option.map_eq_some_iff.1 hy
      have g := st_gm v (List.mem_of_getElem? hm)
      simp [ltV, leV, gtV, geV, sumV, maxV, minV, allV, anyV, sortV, sNext, sSeq, sNever, sBreak, sDrop, sRet, sRetN, sIf, gN, gNl, gCn, gTp, gSb, sAsg, sPar, vVar, vC, vNil, vCons, vTup, vLst, v2, addV, intsV, ints0V, mulV, vNeg, eqV', neV', inV', isV, VL.isNon, vTest, vChain, vAnd, vOr, vNot, vAndV, vOrV, vNotV, vIf, ixV, vNo, vPart, vSl, sliceV, vLc_eq, vDc_eq, sFor_eq, sWhile_eq, iSq, iRg1, iRg2, iEn, iZp, vCB, lenV, listV, tupleV, intV1, absV1, ofInts, ofBls, two, vIsi, vM, vM0, appendV, extendV, popV, popAtV, vIndex, vDnew, vCall, sRaise, vYes, vRev, getV, startV, wipeV]
      refine f_ranks_by v g fun q hq => ?_
      simp [intsOf_map]
      have hz := sz1m
      refine ⟨by omega, s'.put' hq, ?_, ?_⟩
      · rw [ckC, stAt_of hm]
      · rw [ckC, stAt_of hm]
    · rw [List.getElem?_map, List.length_map] at hy
      obtain ⟨m, hm, rfl⟩ := Option.map_eq_some_iff.1 hy
      rw [← stAt_of hm]
      refine RD.of r (SubH.trans ?_ s')
      intro b cc hb
      have : b ≠ p := fun e => by subst e; rw [hp] at hb; cases hb
      unfold vdrop
      rw [if_neg this, vput_ne this]
      exact hb
  · clear hl
    simp [t_cheapest_steady, ltV, leV, gtV, geV, sumV, maxV, minV, allV, anyV, sortV, sNext, sSeq, sNever, sBreak, sDrop, sRet, sRetN, sIf, gN, gNl, gCn, gTp, gSb, sAsg, sPar, vVar, vC, vNil, vCons, vTup, vLst, v2, addV, intsV, ints0V, mulV, vNeg, eqV', neV', inV', isV, VL.isNon, vTest, vChain, vAnd, vOr, vNot, vAndV, vOrV, vNotV, vIf, ixV, vNo, vPart, vSl, sliceV, vLc_eq, vDc_eq, sFor_eq, sWhile_eq, iSq, iRg1, iRg2, iEn, iZp, vCB, lenV, listV, tupleV, intV1, absV1, ofInts, ofBls, two, vIsi, vM, vM0, appendV, extendV, popV, popAtV, vIndex, vDnew, vCall, sRaise, vYes, vRev, getV, startV, wipeV]
    exact f_need_bad b (ZD.of z (.refl _))

def mxL (l : List Int) : Int := l.foldr max 0
theorem mxL_le {l : List Int} : 0 ≤ mxL l ∧ ∀ y ∈ l, y ≤ mxL l := by
  induction l with
  | nil => simp [mxL]
  | cons a l ih =>
    simp only [mxL, List.foldr_cons, List.mem_cons] at *
    refine ⟨by omega, fun y hy => ?_⟩
    rcases hy with rfl | hy
    · omega
    · have := ih.2 y hy; omega
theorem mxL_mem {l : List Int} : mxL l = 0 ∨ mxL l ∈ l := by
  induction l with
  | nil => simp [mxL]
  | cons a l ih =>
    simp only [mxL, List.foldr_cons, List.mem_cons] at *
    rcases Int.max_def a (l.foldr max 0) ▸ (by split <;> simp : (if a ≤ l.foldr max 0 then l.foldr max 0 else a) = a ∨ (if a ≤ l.foldr max 0 then l.foldr max 0 else a) = l.foldr max 0) with h | h
    · right; left; exact h
    · rw [h]; rcases ih with ih | ih
      · left; exact ih
      · right; right; exact ih
theorem mxL_eq {l : List Int} {m : Int} (h : m ∈ (0 : Int) :: l) (hle : ∀ y ∈ (0 : Int) :: l, y ≤ m) : m = mxL l := by
  have h1 := mxL_le (l := l)
  have h2 : mxL l ≤ m := by
    rcases mxL_mem (l := l) with e | e
    · rw [e]; exact hle 0 (by simp)
    · exact hle _ (by simp [e])
  rcases List.mem_cons.1 h with rfl | h
  · omega
  · have := h1.2 m h; omega
def ckK (W : List (List Int)) (i : Nat) : Int × PySem.W.Tup Int := (mxL (rksL W (stAt W i)), ⟨stAt W i⟩)
def kind (W : List (List Int)) : List Int := stAt W (bestI (ckK W) ((stL W).length - 1))
def F_kindest (S : SS) (c1 c2 : Addr) : FV := Srch S c1 c2 fun W => tupI (kind W)
theorem b_kindest {S : SS} {c1 c2 : Addr} {mk : Addr → Clo} : BodyV (F_kindest S c1 c2) 2 1 (t_kindest_steady S (F_need_some c2) (F_need_wishes S c1) F_ranks_by mk) := by
  rintro us vh R Z hl (⟨W, rfl, v, r, z⟩ | ⟨u, pl, rfl, b, z⟩)
  · clear hl
    simp [t_kindest_steady, ltV, leV, gtV, geV, sumV, maxV, minV, allV, anyV, sortV, sNext, sSeq, sNever, sBreak, sDrop, sRet, sRetN, sIf, gN, gNl, gCn, gTp, gSb, sAsg, sPar, vVar, vC, vNil, vCons, vTup, vLst, v2, addV, intsV, ints0V, mulV, vNeg, eqV', neV', inV', isV, VL.isNon, vTest, vChain, vAnd, vOr, vNot, vAndV, vOrV, vNotV, vIf, ixV, vNo, vPart, vSl, sliceV, vLc_eq, vDc_eq, sFor_eq, sWhile_eq, iSq, iRg1, iRg2, iEn, iZp, vCB, lenV, listV, tupleV, intV1, absV1, ofInts, ofBls, two, vIsi, vM, vM0, appendV, extendV, popV, popAtV, vIndex, vDnew, vCall, sRaise, vYes, vRev, getV, startV, wipeV]
    refine f_need_ok v ?_
    refine f_need_some v (fun hne p hp => ?_) fun h => ZD.of (z h) (.refl _)
    have r : R (tupI (kind W)) vh := r hne
    simp only [vMinK, ltV, leV, gtV, geV, sumV, maxV, minV, allV, anyV, sortV, sNext, sSeq, sNever, sBreak, sDrop, sRet, sRetN, sIf, gN, gNl, gCn, gTp, gSb, sAsg, sPar, vVar, vC, vNil, vCons, vTup, vLst, v2, addV, intsV, ints0V, mulV, vNeg, eqV', neV', inV', isV, VL.isNon, vTest, vChain, vAnd, vOr, vNot, vAndV, vOrV, vNotV, vIf, ixV, vNo, vPart, vSl, sliceV, vLc_eq, vDc_eq, sFor_eq, sWhile_eq, iSq, iRg1, iRg2, iEn, iZp, vCB, lenV, listV, tupleV, intV1, absV1, ofInts, ofBls, two, vIsi, vM, vM0, appendV, extendV, popV, popAtV, vIndex, vDnew, vCall, sRaise, vYes, vRev, getV, startV, wipeV, List.getElem?_cons_zero, List.getElem?_cons_succ, List.set]
    have hpos : 0 < (stL W).length := List.length_pos_iff.2 hne
    refine ⟨p, (stL W).map tupI, ckK W, rfl, ownL_new, by simpa using hpos, tupI_ex _, fun f c' hf i y hy vh' s' => ?_, fun y vh' hy s' => ?_⟩
    · rw [List.getElem?_map] at hy
      obtain ⟨m, hm, rfl⟩ := Option.map_eq_some_iff.1 hy
      have g := st_gm v (List.mem_of_getElem? hm)
      have hz := sz1m
      have h8 := v.len
      have hrl : (rksL W m).length ≤ 8 := by simp [rksL, rng_len]; omega
      simp [ltV, leV, gtV, geV, sumV, maxV, minV, allV, anyV, sortV, sNext, sSeq, sNever, sBreak, sDrop, sRet, sRetN, sIf, gN, gNl, gCn, gTp, gSb, sAsg, sPar, vVar, vC, vNil, vCons, vTup, vLst, v2, addV, intsV, ints0V, mulV, vNeg, eqV', neV', inV', isV, VL.isNon, vTest, vChain, vAnd, vOr, vNot, vAndV, vOrV, vNotV, vIf, ixV, vNo, vPart, vSl, sliceV, vLc_eq, vDc_eq, sFor_eq, sWhile_eq, iSq, iRg1, iRg2, iEn, iZp, vCB, lenV, listV, tupleV, intV1, absV1, ofInts, ofBls, two, vIsi, vM, vM0, appendV, extendV, popV, popAtV, vIndex, vDnew, vCall, sRaise, vYes, vRev, getV, startV, wipeV]
      refine ⟨by omega, fun q0 hq0 => ?_⟩
      refine f_ranks_by v g fun q hq => ?_
      have e0 := putO (c := .lst ((rksL W m).map U.int)) (vput_same (vh := vh') (a := q0) (c := .lst [U.int 0])) hq
      simp only [ownL_of e0, ownL_new]
      refine ⟨by simp only [List.length_map, List.length_cons, List.length_nil]; omega, fun q3 hq3 => ?_⟩
      have e1 : [U.int 0] ++ (rksL W m).map U.int = ((0 : Int) :: rksL W m).map U.int := rfl
      rw [e1]
      simp only [asL_new, intsOf_map]
      refine ⟨by first | (simp; done) | exact Nat.succ_pos _, fun mm h1 h2 => ?_⟩
      have := mxL_eq h1 h2
      subst this
      refine ⟨by omega, ((s'.put' hq0).put' hq).put' hq3, ?_⟩
      rw [ckK, stAt_of hm]
      exact ⟨rfl, rfl⟩
    · rw [List.getElem?_map, List.length_map] at hy
      obtain ⟨m, hm, rfl⟩ := Option.map_eq_some_iff.1 hy
      rw [← stAt_of hm]
      refine RD.of r (SubH.trans ?_ s')
      intro b cc hb
      have : b ≠ p := fun e => by subst e; rw [hp] at hb; cases hb
      unfold vdrop
      rw [if_neg this, vput_ne this]
      exact hb
  · clear hl
    simp [t_kindest_steady, ltV, leV, gtV, geV, sumV, maxV, minV, allV, anyV, sortV, sNext, sSeq, sNever, sBreak, sDrop, sRet, sRetN, sIf, gN, gNl, gCn, gTp, gSb, sAsg, sPar, vVar, vC, vNil, vCons, vTup, vLst, v2, addV, intsV, ints0V, mulV, vNeg, eqV', neV', inV', isV, VL.isNon, vTest, vChain, vAnd, vOr, vNot, vAndV, vOrV, vNotV, vIf, ixV, vNo, vPart, vSl, sliceV, vLc_eq, vDc_eq, sFor_eq, sWhile_eq, iSq, iRg1, iRg2, iEn, iZp, vCB, lenV, listV, tupleV, intV1, absV1, ofInts, ofBls, two, vIsi, vM, vM0, appendV, extendV, popV, popAtV, vIndex, vDnew, vCall, sRaise, vYes, vRev, getV, startV, wipeV]
    exact f_need_bad b (ZD.of z (.refl _))
end K75

-- part V14
set_option Elab.async false
set_option linter.all false
set_option maxRecDepth 100000
set_option maxHeartbeats 4000000
/-! Layer V, part 14: a list comprehension whose block calls lambdas that its def keeps. -/
namespace VL
open PySem PySem.Spec PyProof.Rows L2 LamX
section
variable {X : Cx}
abbrev NewL (H : Hp) (D : Addr) : Hp := upd H D (.lst [])
/-- where a block began: the def's own state is known there -/
structure Beg (X : Cx) (pins : List (Addr × Obj)) (σ : L2.St) (B : Hp → Prop) (s : Shared) (H : Hp) (fp : List Addr) : Prop where
  inv : Inv X pins σ H s
  cells : ∀ b ∈ fp, FpOk X pins H b ∧ b < s.heap.objs.size
  told : ∃ (H2 : Hp) (D : Addr), B H2 ∧ H2 D = none ∧ H = NewL H2 D
theorem Beg.later {pins pins' : List (Addr × Obj)} {σ σ' : L2.St} {B : Hp → Prop} {s s' : Shared} {H H' : Hp} {fp : List Addr} {scope : Scope} {ce : Env} (b : Beg X pins σ B s H fp) (J : Inv (X.blk s H scope ce fp) pins' σ' H' s') : Inv X pins σ H' s' :=
  b.inv.call' (ch := fp) J.os J.base J.hok J.bare fun a ha => by
    obtain ⟨⟨_, n1, _, n2, n3, n4⟩, _⟩ := b.cells a ha
    exact ⟨n2, n1, n3, n4⟩
theorem Beg.tup {pins pins' : List (Addr × Obj)} {σ σ' : L2.St} {B : Hp → Prop} {s s' : Shared} {H H' : Hp} {fp : List Addr} {scope : Scope} {ce : Env} (b : Beg X pins σ B s H fp) (J : Inv (X.blk s H scope ce fp) pins' σ' H' s') : TupStay H H' :=
  ⟨J.base.tups, J.base.frzs⟩
/-- what the block's parts are to be, wherever it begins -/
structure Parts (X : Cx) (pins : List (Addr × Obj)) (σ : L2.St) (B : Hp → Prop) (scope : Scope) (tg elt : Expr) (ifs : List Expr) (g : TG) (tt : TT) (te : TE) : Prop where
  at_ : ∀ (s : Shared) (H : Hp) (C : Addr) (cl : List (Str × Addr)) (fp : List Addr), Beg X pins σ B s H fp →
    PG (X.blk s H scope (compEnvC scope cl C X.env) fp) tg g ∧ PTs (X.blk s H scope (compEnvC scope cl C X.env) fp) ifs tt ∧ PE (X.blk s H scope (compEnvC scope cl C X.env) fp) elt te
/-- the rest of the reading of a comprehension, once the iterator stands -/
abbrev Rest (J : It) (g : TG) (tt : TT) (te : TE) (vs : List Nat) (σ : L2.St) (H : Hp) (Q : VK) : Prop := tLc (fun _ H' R => R J H') g tt te vs σ H Q
theorem fp_blk {scope : Scope} {ce : Env} {fp : List Addr} {s s' : Shared} {H H' : Hp} {σ' : L2.St} (J : Inv (X.blk s H scope ce fp) [] σ' H' s') (hn : ∀ b ∈ fp, H' b = none) : ∀ b ∈ fp, FpOk (X.blk s H scope ce fp) [] H' b := by
  intro b hb
  have q := J.ok.exf b hb
  refine ⟨hn b hb, q.1, J.ok.exfs b hb, Or.inl hb, q.2, ?_⟩
  intro p hp
  cases hp
theorem pe_lcT {pins : List (Addr × Obj)} {s : Shared} {σ : L2.St} {H : Hp} {Q : VK} {elt tg iter : Expr} {ifs : List Expr} {scope : Scope} {own : List (Str × Nat)} {pos : Pos} {wi : TI} {g : TG} {tt : TT} {te : TE} (B : Hp → Prop)
    (hc : X.calm = true) (hN : X.N.Nodup) (I : Inv X pins σ H s) (hi : PI X tg iter wi) (ok : BlkOk X.N X.env.scope scope own) (P : Parts X pins σ B scope tg elt ifs g tt te) (hs : ∀ x, foldedSetIterable iter X.env x = pure x)
    (h : wi σ H fun J H1 => B H1 ∧ Rest J g tt te (own.map (·.2)) σ H1 Q) :
    wpAny (model X.prog X.w) X.A (eval (.ListComp elt [⟨tg, iter, ifs, 0⟩] scope pos) X.env) (EP X pins σ Q) X.xe s := by
  rw [eval_ListComp]
  have caught : ∀ z ∈ scope.names, z.2 = .free → ∃ c, X.env.cells.lookup z.1 = some c := fun z hz e => (ok.free z hz e).elim (fun k => I.ok.has _ (.inl k)) fun k => I.ok.has _ (.inr k)
  refine wpAny_comprehension_free (use := none) rfl hs (closure_ok caught) ok.kind (fun z hz e => (ok.uniq z hz).trans (congrArg some e)) (thn (hi.run pins s σ H _ I h) fun _ _ hx => thn hx fun _ s2 h2 => ?_)
  obtain ⟨it, fp, tn, J, H2, e, I2, T, st2, f2, hB, q⟩ := h2
  subst e
  refine wpAny_newObj_type (newEnv_comp ?_) (by show 0 ≤ sizeLine; decide)
  have hnew : H2 s2.heap.objs.size = none := I2.hok.fresh (Nat.le_refl _)
  obtain ⟨W, ⟨m0, w0⟩, turn⟩ := q s2.heap.objs.size hnew
  generalize hD : s2.heap.objs.size = D at hnew w0 turn ⊢
  -- the list is laid
  have grow : ∀ b o, s2.heap.get? b = some o → (s2.heap.push { cls := .type "list", data := .seq ([] : List Value).toArray }).get? b = some o := fun b o e => Heap.get?_push_of_some _ e
  generalize hs3 : ({ s2 with heap := s2.heap.push { cls := .type "list", data := .seq ([] : List Value).toArray } } : Shared) = s3
  have h3 : s3.heap = s2.heap.push { cls := .type "list", data := .seq ([] : List Value).toArray } := by subst hs3; rfl
  have I3 : Inv X pins σ (NewL H2 D) s3 := by
    subst hs3
    exact I2.laid (t' := s2.toks) grow (Nat.le_of_eq hD) ⟨Nat.zero_le _, [], 0, .nil, by subst hD; exact Heap.get?_push_size _ rfl⟩
  have below : ∀ b ∈ fp, b < s2.heap.objs.size := fun b hb => by
    obtain ⟨_, ho, _⟩ := T.obj 0 s2.heap st2 b hb
    exact Heap.lt_size ho
  have beg : Beg X pins σ B s3 (NewL H2 D) fp := ⟨I3, fun b hb => by
    have lt := below b hb
    obtain ⟨z, zs⟩ := f2 b hb
    refine ⟨⟨?_, zs⟩, ?_⟩
    · show upd H2 D _ b = none
      rw [upd_ne (by rw [← hD]; exact Nat.ne_of_lt lt)]
      exact z
    · rw [h3, Heap.size_push]; exact Nat.lt_succ_of_lt lt, H2, D, hB, hnew, rfl⟩
  have st3 : tn 0 s3.heap := T.keep 0 s2.heap s3.heap st2 fun b _ o e => (congrArg (·.get? b) h3).trans (grow b o e)
  have I4 := block_start I3 ok hN beg.cells
  have parts := P.at_ s3 (NewL H2 D) s3.heap.objs.size (cellsFrom (s3.heap.objs.size + 1) scope.names (cloFrom X.env.cells scope.names [])) fp beg
  show codeAny _ _ (.compStart (.ListComp elt [⟨tg, iter, ifs, 0⟩] scope pos) 0 (.ref it) (.ref D) (compEnvC scope (cellsFrom (s3.heap.objs.size + 1) scope.names (cloFrom X.env.cells scope.names [])) s3.heap.objs.size X.env))
    (compPost (model X.prog X.w) X.A X.xe none _ (.ref D) s3.heap.objs.size) { s3 with heap := pushCells (s3.heap.push { cls := .type "dict", data := .dict #[] }) scope.names }
  generalize hce : compEnvC scope (cellsFrom (s3.heap.objs.size + 1) scope.names (cloFrom X.env.cells scope.names [])) s3.heap.objs.size X.env = ce at I4 parts ⊢
  have cL : ce.locals = s3.heap.objs.size := by rw [← hce]; rfl
  obtain ⟨pg, pt, pe⟩ := parts
  have w0 : W 0 m0 (NewL H2 D) := w0
  generalize NewL H2 D = H3 at beg I3 I4 pg pt pe w0
  generalize hs4 : ({ s3 with heap := pushCells (s3.heap.push { cls := .type "dict", data := .dict #[] }) scope.names } : Shared) = s4 at I4 ⊢
  have st4 : tn 0 s4.heap := T.keep 0 s3.heap s4.heap st3 fun b _ o e => by subst hs4; exact pushCells_keeps _ _ _ _ (Heap.get?_push_of_some _ e)
  let Y : Cx := X.blk s3 H3 scope ce fp
  let Between : Nat → Nat → Shared → Prop := fun i n s' => ∃ H', Inv Y [] (wipe σ (own.map (·.2))) H' s' ∧ tn i s'.heap ∧ (∀ b ∈ fp, H' b = none) ∧ W i n H'
  have loop : codeAny (model X.prog X.w) X.A (.compLoop (.ListComp elt [⟨tg, iter, ifs, 0⟩] scope pos) 0 (.ref it) (.ref D) ce) (compPost (model X.prog X.w) X.A X.xe none (EP X pins σ Q) (.ref D) s3.heap.objs.size) s4 := by
    refine compLoop_any (fun n s' => ∃ i, Between i n s') ?_ m0 ⟨0, H3, I4, st4, fun b hb => (beg.cells b hb).1.1, w0⟩
    rintro n s5 ⟨i, H5, I5, st5, n5, w5⟩
    rcases turn i n H5 w5 with ⟨stop, qq⟩ | ⟨go, Nx, hNx, step⟩
    · refine thnF (T.done Y rfl rfl rfl hc i [] s5 _ H5 (fun _ _ => False) I5 (fp_blk I5 n5) st5 stop) fun r s6 ⟨hr, I6⟩ => ?_
      cases hr
      have back : Inv X pins σ H5 s6 := beg.later I6
      have gone : H5 s3.heap.objs.size = none := cL ▸ I6.free
      obtain ⟨m, names, _⟩ := I6.loc
      have names : s6.heap.Ns s3.heap.objs.size m := cL ▸ names
      obtain ⟨f0, f1, f2', f3, f4, f5⟩ := I3.fpOk (H' := H5) (Nat.le_refl _) gone
      exact ⟨m, names, fun h6 sb => ⟨.ref D, H5, back.turned (t' := s6.toks) (fun b o hb e => (sb.2 b hb).trans e) f0 f1 f3 f4 f5, rfl, qq⟩⟩
    · refine thnF (T.item Y rfl rfl rfl hc i [] s5 _ H5 (fun _ _ => False) I5 (fp_blk I5 n5) st5 go) fun r s6 ⟨u, hr, h6⟩ => ?_
      cases hr
      refine thnF h6 fun _ s7 ⟨x, H7, I7, r7, y7, st7, n7⟩ => ?_
      have P7 := I7.pinned (fp_blk I7 n7) (T.obj _ _ st7)
      refine thnF (pg.run _ s7 _ H7 x u _ P7 r7 (step x H7 y7)) fun _ s8 ⟨σ8, H8, I8, hw8, q8⟩ => thnF (pt.run _ s8 σ8 H8 _ I8 q8) fun b s9 ⟨H9, I9, q9⟩ => ?_
      -- how a turn closes
      have close : ∀ (s' : Shared) (H' : Hp), Inv Y ([] ++ pinsAt fp s7.heap) σ8 H' s' → Nx H' → ∃ m, m < n ∧ ∃ i, Between i m s' := fun s' H' J nx => by
        obtain ⟨m', lt, w'⟩ := hNx H' nx
        have pin : ∀ b ∈ fp, ∀ o, s7.heap.get? b = some o → s'.heap.get? b = some o ∧ H' b = none := fun b hb o e => by
          have z := J.pin (b, o) (List.mem_append_right _ (List.mem_append_right _ (mem_pinsAt hb e)))
          exact ⟨z.1, z.2.1⟩
        refine ⟨m', lt, i + 1, H', J.unpinned.weak (pins := []) ?_ ?_, T.keep _ _ _ st7 fun b hb o e => (pin b hb o e).1, fun b hb => ?_, w'⟩
        · rw [← hw8, wipe_length]
        · intro j v e
          rw [← hw8] at e
          exact (wipe_some e).1
        · obtain ⟨o, e, _⟩ := T.obj _ _ st7 b hb
          exact (pin b hb o e).2
      cases b with
      | false => exact close s9 H9 I9 q9
      | true =>
        refine thnF (pe.run _ s9 σ8 H9 _ I9 q9) fun z s10 ⟨yv, H10, I10, r10, acc, hD10, hz10, nx⟩ => ?_
        exact app_ok (X := Y) I10 hD10 hz10 r10 fun s11 I11 => close s11 _ I11 nx
  exact codeAny_compStart_list loop (T.self X.A 0 _ _ _ st4 loop)
end
/-- the same, the block's tests and element told at the def's own names -/
def vLcT (ti : TIV) (g : TGV) (tt : EV → TVb) (te : EV → TV) (ws : List Nat) : TV := fun Γ vh R Z => vLc ti g (tt Γ) (te Γ) ws Γ vh R Z
/-- a block of the running def, its names told as Γ -/
structure InBlk (X Y : Cx) (Γ : EV) : Prop where
  K : Y.K = X.K
  prog : Y.prog = X.prog
  w : Y.w = X.w
  mg : Y.mg = X.mg
  base : Y.base = X.base
  stack : Y.stack = X.stack
  inv : ∀ (pins : List (Addr × Obj)) (σ : L2.St) (H : Hp) (s : Shared), Inv Y pins σ H s → ∃ (pins' : List (Addr × Obj)) (σ' : L2.St), Inv X pins' σ' H s ∧ RelG X.K H Γ σ'
theorem ve_lcT {X : Cx} {P : Pk} {E : XK} {elt iter tg : Expr} {ifs : List Expr} {scope : Scope} {own : List (Str × Nat)} {ws : List Nat} {pos : Pos} {ti : TIV} {g : TGV} {tt : EV → TVb} {te : EV → TV} (hc : X.calm = true) (hN : X.N.Nodup) (hi : VI X P E tg iter ti) (ok : BlkOk X.N X.env.scope scope own)
    (hb : ∀ (Γ : EV) (s : Shared) (H : Hp) (C : Addr) (cl : List (Str × Addr)) (fp : List Addr), InBlk X (X.blk s H scope (compEnvC scope cl C X.env) fp) Γ →
      VGw (X.blk s H scope (compEnvC scope cl C X.env) fp) P ws tg g ∧ VTs (X.blk s H scope (compEnvC scope cl C X.env) fp) P E0 ifs (tt Γ) ∧ VE (X.blk s H scope (compEnvC scope cl C X.env) fp) P E0 elt (te Γ))
    (hs : ∀ x, foldedSetIterable iter X.env x = pure x := by intro _; rfl) (hw : own.map (·.2) = ws := by rfl) :
    VE X P E (.ListComp elt [⟨tg, iter, ifs, 0⟩] scope pos) (vLcT ti g tt te ws) := by
  subst hw
  refine ⟨fun pins s σ H Q I ⟨Γ, vh, R, Z, gg, r, q, k, x⟩ => ?_⟩
  refine pe_lcT (tt := lT (wd X P) E0 (tt Γ)) (te := lE (wd X P) E0 (te Γ)) (g := lGw (wd X P) (own.map (·.2)) g) (B := fun H2 => RelG X.K H2 Γ σ) hc hN I hi ok ⟨fun s3 H3 C cl fp b => ?_⟩ hs ⟨Γ, vh, _, Z, gg, r, q, fun It vh1 q1 J H1 s1 lj => ?_, x⟩
  · refine hb Γ s3 H3 C cl fp ⟨rfl, rfl, rfl, rfl, rfl, rfl, fun pins' σ' H' s' J => ⟨pins, σ, b.later J, ?_⟩⟩
    obtain ⟨H2, D, hB, hD, e⟩ := b.told
    have t1 : TupStay H2 H3 := by
      subst e
      exact ⟨fun c xs h => by show upd H2 D _ c = _; rw [upd_ne (ne_of_none h hD)]; exact h, fun c o u h => by show upd H2 D _ c = _; rw [upd_ne (ne_of_none h hD)]; exact h⟩
    exact RelG.stay (t1.trans (b.tup J)) hB
  · refine ⟨gg.stay s1.tup, ?_⟩
    have lift := lc_lift (X := X) (P := P) (E := E) (ti := fun _ vh R _ => R It vh) (g := g) (tt := tt Γ) (te := te Γ) (ws := own.map fun z : Str × Nat => z.2) σ H1 Q ⟨Γ, vh1, R, Z, gg.stay s1.tup, s1.rel, q1, fun u vh' h v H' st r => k _ _ h _ _ (s1.trans st) r, x.step s1⟩
    obtain ⟨Γ', vh', R', Z', g', r', q', k', x'⟩ := lift
    refine k' It vh' q' J H1 (.refl r') ?_
    exact lj
/-! ### the calls of kept lambdas, anywhere in the def -/
theorem LamOk.blk {X Y : Cx} {P : Pk} {k : Nat} {Γ₀ : EV} {mk : Addr → Addr → Clo} {us : List U} {tb : TV} (l : LamOk X P k mk us tb) (b : InBlk X Y Γ₀) : LamAt Y P k (fun _ => Γ₀) mk us tb := ⟨fun pins σ H s Γ f t c' J g => by
  obtain ⟨pins', σ', I, g'⟩ := b.inv pins σ H s J
  have := l.thk pins' σ' H s Γ₀ f t c' I g'
  rw [b.prog, b.w, b.K, b.mg, b.base, b.stack]
  exact this⟩
end VL

-- part V15
set_option Elab.async false
set_option linter.all false
set_option maxRecDepth 100000
set_option maxHeartbeats 4000000
/-! Layer V, part 15: lambdas without a parameter, with a default; what a law's _law_is does. -/
namespace VL
open PySem PySem.Spec PyProof.Rows L2 LamX
open PySem.W (kdv_obj kdv_fn kdv_tup)
/-- one parameter, its default 0: how it binds may hang on the lambda's own names -/
theorem cloB_d1 {F : Clo} {x : Str} {T : Addr} (hd : F.dT = some T)
    (h : ∀ (doc pm ctv : Value), ∃ k : Option (Array Value) → Sem (List (Str × Value)), bindArgs (kdv_fn "<lambda>" F.qual F.params (.expr F.body) F.scope F.cl (.ref T) doc pm (.ref F.c) ctv) ⟨[], []⟩ = seqItems? (.ref T) >>= k ∧ ∀ t, k (some #[Value.int 0 t]) = pure [(x, Value.int 0 t)]) : CloB F [x] 0 fun _ => [.int 0] :=
  ⟨fun _ _ => rfl, fun s doc pm ctv vs us e r dt => by
    obtain ⟨t, o, m, ho, hdd⟩ := dt T hd
    obtain ⟨k, h1, h2⟩ := h doc pm ctv
    have none_ : us = [] := by
      cases vs with
      | nil => cases r; rfl
      | cons _ _ => cases e
    subst none_
    refine ⟨[.int 0 t], .cons ⟨t, rfl⟩ .nil, ?_⟩
    have dv : dVal F.dT = .ref T := by rw [hd]; rfl
    rw [dv]
    exact BindsTo.of_defaults (fd := kdv_fn "<lambda>" F.qual F.params (.expr F.body) F.scope F.cl (.ref T) doc pm (.ref F.c) ctv) rfl ho hdd h1 (h2 t)⟩
section
variable {X : Cx} {P : Pk} {k : Nat} {params : Arguments} {body : Expr} {scope : Scope} {tb : TV}
theorem lam0 (L : CloS X.N X.env.scope scope []) (hb : ∀ c', CloB ⟨X.env.qual ++ "<lambda>", params, body, scope, cloFrom X.env.cells scope.names [], c', none⟩ [] 0 fun vs => vs)
    (hbody : ∀ (A : Around) (outer : List Env) (s : Shared) (H : Hp) (E : XK) (f c' : Addr), Room k (A.deeper (lamEnv X scope s.heap.objs.size f c')) → VE (cloCx X A outer s H E scope f c' []) P E body tb) :
    LamOk X P (k + 1) (fun _ c' => ⟨X.env.qual ++ "<lambda>", params, body, scope, cloFrom X.env.cells scope.names [], c', none⟩) [] tb :=
  ⟨fun pins σ H s Γ f t c' I g => thkV_of I g L (hb c') (fun _ => RelUs.nil) fun A outer s H E hr => hbody A outer s H E f c' hr⟩
theorem lamD {x : Str} (L : CloS X.N X.env.scope scope [x]) (hb : ∀ t c', CloB ⟨X.env.qual ++ "<lambda>", params, body, scope, cloFrom X.env.cells scope.names [], c', some t⟩ [x] 0 fun _ => [.int 0])
    (hbody : ∀ (A : Around) (outer : List Env) (s : Shared) (H : Hp) (E : XK) (f c' : Addr), Room k (A.deeper (lamEnv X scope s.heap.objs.size f c')) → VE (cloCx X A outer s H E scope f c' [x]) P E body tb) :
    LamOk X P (k + 1) (fun t c' => ⟨X.env.qual ++ "<lambda>", params, body, scope, cloFrom X.env.cells scope.names [], c', some t⟩) [.int 0] tb :=
  ⟨fun pins σ H s Γ f t c' I g => thkV_of I g L (hb t c') (fun _ => RelUs.ints (ns := [0])) fun A outer s H E hr => hbody A outer s H E f c' hr⟩
end
abbrev LamsAt (Y : Cx) (P : Pk) (k : Nat) (G : EV → EV) (ls : List LamE) : Prop := ∀ m ∈ ls, LamAt Y P k G m.1 m.2.1 m.2.2
theorem lam_nil {Y : Cx} {P : Pk} {k : Nat} {G : EV → EV} : LamsAt Y P k G [] := fun _ h => by cases h
theorem lam_cons {Y : Cx} {P : Pk} {k : Nat} {G : EV → EV} {mk : Addr → Addr → Clo} {us : List U} {tb : TV} {ls : List LamE} (h : LamAt Y P k G mk us tb) (hs : LamsAt Y P k G ls) : LamsAt Y P k G ((mk, us, tb) :: ls) := fun m hm => by
  rcases List.mem_cons.mp hm with rfl | hm
  · exact h
  · exact hs m hm
/-- a class that an except clause names, its field read there -/
structure CaOk (K : PySem.W.Frag) (mg : Str → Option Value) (x : Str) (C : Addr) (fld : Str) : Prop where
  at_ : mg x = some (.ref C)
  T : XfC K C
  no : PySem.W.findIn K (.ref C) fld = some none
/-- the law's _law_is -/
structure IsOk (P : Program) (w : World) (K : PySem.W.Frag) (mg : Str → Option Value) (base : Heap) (Pd : Pk) (j n : Nat) (cs : List TC) : Prop where
  run : ∀ {X : Cx} {E : XK} {e1 e2 : Expr} {te1 te2 : TV} {G : EV → EV} {ls : List LamE} {p pos : Pos}, X.prog = P → X.w = w → X.K = K → X.mg = mg → X.base = base → Room (j + 2) X.A → Gl X "_law_is" → PassV X E → VE X Pd E e1 te1 → VE X Pd E e2 te2 → LamsAt X Pd j G ls →
    (starEach [e1, e2] X.env = (false, PySem.eval e1 X.env) :: starEach [e2] X.env) → (starEach [e2] X.env = (false, PySem.eval e2 X.env) :: starEach [] X.env) → ((backTo pos (starEach [e2] X.env)).any (·.1) = false) →
    VE X Pd E (.Call (.Name "_law_is" p) [e1, e2] [] pos) (vIs n cs ls G te1 te2)
theorem is_of {P : Program} {w : World} {K : PySem.W.Frag} {mg : Str → Option Value} {base : Heap} {Pd : Pk} {j n : Nat} {cs : List TC} {st : Stmt} {g : Addr} {fd : FuncData} (Fn : L2.Fun K "_law_is" "_law_is" st g fd) (S : FnScope ["action", "due", "got"] ["action", "due"] (L2.defScope st))
    (at_ : mg "_law_is" = some (.ref g)) (b : Binds K fd ["action", "due"] []) (hcs : ∀ c ∈ cs, okD 9 (.str c.lab) = true)
    (hbody : ∀ (cdv : Value) (A : Around) (outer : List Env) (s : Shared) (H : Hp) (E : XK) (f : Addr) (tv : TK), Room (j + 1) (A.deeper (envOfC "_law_is" (L2.defScope st) s.heap.objs.size g cdv)) → ThkV P w K mg base Pd (frs outer) j s H f tv → (∀ vh R Z, tv vh R Z → ∃ F, vh f = some (cloF f F)) →
      VSs (cxV P w K mg base ["action", "due", "got"] "_law_is" (L2.defScope st) g cdv A outer s H E) Pd E (L2.defBody st) (tIs Pd.S n cs f tv)) : IsOk P w K mg base Pd j n cs := by
  refine ⟨fun {X E e1 e2 te1 te2 G ls p pos} h1 h2 h3 h4 h5 hr hg hx v1 v2 hls s1 s2 s3 => ?_⟩
  subst h1 h2 h3 h4 h5
  have kp := Fn.kp
  obtain ⟨oc, od, kV, doc, pm, an, cdv, ct, osl, rfl, lk, hcd⟩ := Fn.ex
  exact ve_is lk hcd S rfl rfl hr hg at_ kp b hx v1 v2 hls hcs (fun A outer s H E f tv hr' th hcl => hbody cdv A outer s H E f tv hr' th hcl) (by decide) s1 s2 s3
/-- what comes later, not opened yet -/
def sLater (u : TVs) : TVs := u
theorem sLater_i {u : TVs} {R : EndV} {Z : XV} {Γ : EV} {vh : VH} (h : u R Z Γ vh) : sLater u R Z Γ vh := h
/-- no wish: for a call that does not come -/
def FNo : FV := fun _ _ _ _ => False
end VL

-- part A3
set_option Elab.async false
set_option linter.all false
set_option maxRecDepth 100000
set_option maxHeartbeats 4000000
namespace K75
open PySem PySem.Spec PyProof.Rows L2 VL LamX
section
variable {P : Program} {w : World} {K : PySem.W.Frag} {mg : Str → Option Value} {base : Heap} {Pd : Pk}
abbrev s__law_tape : Stmt := topS 26
theorem sc__law_tape : FnScope ["script", "many", "salt", "found", "cell", "rest", "turn", "start", "mixed"] ["script", "many", "salt"] (L2.defScope s__law_tape) := ⟨rfl, rfl, rfl, by decide +kernel, rfl, by decide +kernel, by decide +kernel⟩
def t__law_tape (S : Option (Addr × List Int)) : TVs :=
  (sSeq (sAsg (vLst vNil) (gN 3))
    (sSeq (sFor (iSq S (vSl S (vVar 0) vNo (vPart (vC (.int 63))))) (gN 4)
    (sSeq (sAsg (vCB S absV1 (vCons (vVar 4) vNil)) (gN 5))
    (sSeq (sIf (vTest (v2 S geV (vVar 5) (v2 S (intsV CPow fun i j => i ^ j.toNat) (vC (.int 10)) (vC (.int 18)))))
    (sSeq (sFor (iRg1 (vCons (vC (.int 60)) vNil)) (gN 6)
    (sSeq (sIf (vTest (v2 S eqV' (vVar 5) (vC (.int 0))))
    (sSeq sBreak
    sNext)
    sNext)
    (sSeq (sDrop (vM S appendV (vVar 3) (vCons (v2 S (intsV (fun _ j => j ≠ 0) Int.fmod) (vVar 5) (vC (.int 1000))) vNil)))
    (sSeq (sAsg (v2 S (intsV CDivN Int.fdiv) (vVar 5) (vC (.int 1000))) (gN 5))
    sNext))))
    sNext)
    sNext)
    sNext)))
    (sSeq (sAsg (v2 S addV (v2 S mulV (vCB S lenV (vCons (vVar 0) vNil)) (vC (.int 31))) (v2 S mulV (vVar 2) (vC (.int 7919)))) (gN 7))
    (sSeq (sFor (iSq S (vSl S (vVar 0) vNo (vPart (vC (.int 63))))) (gN 4)
    (sSeq (sAsg (v2 S (intsV (fun _ j => j ≠ 0) Int.fmod) (vCB S intV1 (vCons (v2 S addV (v2 S addV (v2 S mulV (vVar 7) (vC (.int 48271))) (v2 S (intsV (fun _ j => j ≠ 0) Int.fmod) (vCB S intV1 (vCons (vVar 4) vNil)) (vC (.int 1000003)))) (vC (.int 11))) vNil)) (vC (.int 2147483647))) (gN 7))
    sNext))
    (sSeq (sFor (iRg1 (vCons (vVar 1) vNil)) (gN 6)
    (sSeq (sIf (vTest (v2 S geV (vCB S lenV (vCons (vVar 3) vNil)) (vVar 1)))
    (sSeq sBreak
    sNext)
    sNext)
    (sSeq (sAsg (v2 S (intsV (fun _ j => j ≠ 0) Int.fmod) (vCB S intV1 (vCons (v2 S addV (v2 S addV (v2 S mulV (vVar 7) (vC (.int 69621))) (vVar 6)) (vC (.int 12345))) vNil)) (vC (.int 2147483647))) (gN 7))
    (sSeq (sAsg (v2 S (intsV (fun _ j => j ≠ 0) Int.fmod) (vCB S intV1 (vCons (v2 S mulV (vVar 7) (v2 S addV (vVar 7) (vC (.int 7)))) vNil)) (vC (.int 2147483629))) (gN 8))
    (sSeq (sDrop (vM S appendV (vVar 3) (vCons (v2 S (intsV (fun _ j => j ≠ 0) Int.fmod) (v2 S (intsV CDivN Int.fdiv) (vVar 8) (vC (.int 13))) (vC (.int 1000))) vNil)))
    sNext)))))
    (sSeq (sRet (vRev S (vSl S (vVar 3) vNo (vPart (vVar 1)))))
    sNext))))))
theorem v__law_tape (b_abs : mg "abs" = none) (b_int : mg "int" = none) (b_len : mg "len" = none) (b_range : mg "range" = none) (cdv : Value) (f : Addr) (A : Around) (outer : List Env) (s : Shared) (H : Hp) (E : XK) (hr : Room 0 (A.deeper (envOfC "_law_tape" (L2.defScope s__law_tape) s.heap.objs.size f cdv))) :
    VSs (cxV P w K mg base ["script", "many", "salt", "found", "cell", "rest", "turn", "start", "mixed"] "_law_tape" (L2.defScope s__law_tape) f cdv A outer s H E) Pd E (L2.defBody s__law_tape) (t__law_tape Pd.S) :=
  (vss_cons (vs_set (i := 3) sc__law_tape.nd rfl (.inl rfl) (ve_lst va_nil))
    (vss_cons (vs_for ownC rfl (vi_sq (ve_slice (vv 0) vo_none (vo_some ve_int))) (vg_name (i := 4) sc__law_tape.nd rfl (.inl rfl))
    (vss_cons (vs_set (i := 5) sc__law_tape.nd rfl (.inl rfl) (ve_abs (by rfl) b_abs (va_cons (vv 4) va_nil)))
    (vss_cons (vs_if (vt_cmp c_ge (vv 5) (ve_pow ve_int ve_int))
    (vss_cons (vs_for ownC rfl (vi_range1 (by rfl) b_range (va_cons ve_int va_nil)) (vg_name (i := 6) sc__law_tape.nd rfl (.inl rfl))
    (vss_cons (vs_if (vt_cmp (c_eq (hu65 hr)) (vv 5) ve_int)
    (vss_cons vs_break
    vss_nil)
    vss_nil)
    (vss_cons (vs_expr (ve_append (vv 3) (va_cons (ve_mod (vv 5) ve_int) va_nil)))
    (vss_cons (vs_set (i := 5) sc__law_tape.nd rfl (.inl rfl) (ve_fdiv (vv 5) ve_int))
    vss_nil))))
    vss_nil)
    vss_nil)
    vss_nil)))
    (vss_cons (vs_set (i := 7) sc__law_tape.nd rfl (.inl rfl) (ve_add (ve_mul (ve_len (by rfl) b_len (va_cons (vv 0) va_nil)) ve_int) (ve_mul (vv 2) ve_int)))
    (vss_cons (vs_for ownC rfl (vi_sq (ve_slice (vv 0) vo_none (vo_some ve_int))) (vg_name (i := 4) sc__law_tape.nd rfl (.inl rfl))
    (vss_cons (vs_set (i := 7) sc__law_tape.nd rfl (.inl rfl) (ve_mod (ve_int1 (by rfl) b_int (va_cons (ve_add (ve_add (ve_mul (vv 7) ve_int) (ve_mod (ve_int1 (by rfl) b_int (va_cons (vv 4) va_nil)) ve_int)) ve_int) va_nil)) ve_int))
    vss_nil))
    (vss_cons (vs_for ownC rfl (vi_range1 (by rfl) b_range (va_cons (vv 1) va_nil)) (vg_name (i := 6) sc__law_tape.nd rfl (.inl rfl))
    (vss_cons (vs_if (vt_cmp c_ge (ve_len (by rfl) b_len (va_cons (vv 3) va_nil)) (vv 1))
    (vss_cons vs_break
    vss_nil)
    vss_nil)
    (vss_cons (vs_set (i := 7) sc__law_tape.nd rfl (.inl rfl) (ve_mod (ve_int1 (by rfl) b_int (va_cons (ve_add (ve_add (ve_mul (vv 7) ve_int) (vv 6)) ve_int) va_nil)) ve_int))
    (vss_cons (vs_set (i := 8) sc__law_tape.nd rfl (.inl rfl) (ve_mod (ve_int1 (by rfl) b_int (va_cons (ve_mul (vv 7) (ve_add (vv 7) ve_int)) va_nil)) ve_int))
    (vss_cons (vs_expr (ve_append (vv 3) (va_cons (ve_mod (ve_fdiv (vv 8) ve_int) ve_int) va_nil)))
    vss_nil)))))
    (vss_cons (vs_ret (ve_rev (ve_slice (vv 3) vo_none (vo_some (vv 1)))))
    vss_nil))))))
abbrev s__law_take : Stmt := topS 27
theorem sc__law_take : FnScope ["tape", "limit"] ["tape", "limit"] (L2.defScope s__law_take) := ⟨rfl, rfl, rfl, by decide +kernel, rfl, by decide +kernel, by decide +kernel⟩
def t__law_take (S : Option (Addr × List Int)) : TVs :=
  (sSeq (sIf (vTest (v2 S eqV' (vVar 0) (vLst vNil)))
    (sSeq (sRet (vC (.int 0)))
    sNext)
    sNext)
    (sSeq (sRet (v2 S (intsV (fun _ j => j ≠ 0) Int.fmod) (vM0 S popV (vVar 0)) (vVar 1)))
    sNext))
theorem v__law_take (cdv : Value) (f : Addr) (A : Around) (outer : List Env) (s : Shared) (H : Hp) (E : XK) (hr : Room 0 (A.deeper (envOfC "_law_take" (L2.defScope s__law_take) s.heap.objs.size f cdv))) :
    VSs (cxV P w K mg base ["tape", "limit"] "_law_take" (L2.defScope s__law_take) f cdv A outer s H E) Pd E (L2.defBody s__law_take) (t__law_take Pd.S) :=
  (vss_cons (vs_if (vt_cmp (c_eq (hu65 hr)) (vv 0) (ve_lst va_nil))
    (vss_cons (vs_ret ve_int)
    vss_nil)
    vss_nil)
    (vss_cons (vs_ret (ve_mod (ve_pop (vv 0)) (vv 1)))
    vss_nil))
abbrev s__law_mixed : Stmt := topS 30
theorem sc__law_mixed : FnScope ["tape", "some", "rest", "found"] ["tape", "some"] (L2.defScope s__law_mixed) := ⟨rfl, rfl, rfl, by decide +kernel, rfl, by decide +kernel, by decide +kernel⟩
def t__law_mixed (S : Option (Addr × List Int)) (F__law_take : FV) : TVs :=
  (sSeq (sPar 2 3 (vCons (vCB S listV (vCons (vVar 1) vNil)) (vCons (vLst vNil) vNil)))
    (sSeq (sWhile (vTest (v2 S neV' (vVar 2) (vLst vNil)))
    (sSeq (sDrop (vM S appendV (vVar 3) (vCons (vM S popAtV (vVar 2) (vCons (vCall F__law_take 2 (vCons (vVar 0) (vCons (vCB S lenV (vCons (vVar 2) vNil)) vNil))) vNil)) vNil)))
    sNext))
    (sSeq (sRet (vVar 3))
    sNext)))
theorem v__law_mixed {f__law_take : Addr} {fd__law_take : FuncData} {F__law_take : FV} (o__law_take : DOk P w K mg base Pd 1 "_law_take" f__law_take fd__law_take ["tape", "limit"] F__law_take) (b_len : mg "len" = none) (b_list : mg "list" = none) (cdv : Value) (f : Addr) (A : Around) (outer : List Env) (s : Shared) (H : Hp) (E : XK) (hr : Room 1 (A.deeper (envOfC "_law_mixed" (L2.defScope s__law_mixed) s.heap.objs.size f cdv))) :
    VSs (cxV P w K mg base ["tape", "some", "rest", "found"] "_law_mixed" (L2.defScope s__law_mixed) f cdv A outer s H E) Pd E (L2.defBody s__law_mixed) (t__law_mixed Pd.S F__law_take) :=
  (vss_cons (vs_par (i := 2) (j := 3) rfl sc__law_mixed.nd rfl rfl (by decide) rfl rfl (va_cons (ve_listC (by rfl) b_list (va_cons (vv 1) va_nil)) (va_cons (ve_lst va_nil) va_nil)))
    (vss_cons (vs_while ownC (vt_cmp (c_ne (hu65 hr)) (vv 2) (ve_lst va_nil))
    (vss_cons (vs_expr (ve_append (vv 3) (va_cons (ve_popAt (vv 2) (va_cons (ve_call o__law_take.ok (hr.mono (by decide)) (by rfl) o__law_take.at_ o__law_take.kp o__law_take.b passC (va_cons (vv 0) (va_cons (ve_len (by rfl) b_len (va_cons (vv 2) va_nil)) va_nil))) va_nil)) va_nil)))
    vss_nil))
    (vss_cons (vs_ret (vv 3))
    vss_nil)))
abbrev s__law_wishes : Stmt := topS 31
theorem sc__law_wishes : FnScope ["tape", "most", "share", "many", "word", "lists", "person", "one", "other", "some"] ["tape", "most", "share"] (L2.defScope s__law_wishes) := ⟨rfl, rfl, rfl, by decide +kernel, rfl, by decide +kernel, by decide +kernel⟩
def t__law_wishes (S : Option (Addr × List Int)) (F__law_mixed F__law_take : FV) : TVs :=
  (sSeq (sPar 3 4 (vCons (vCall F__law_take 2 (vCons (vVar 0) (vCons (v2 S addV (vVar 1) (vC (.int 1))) vNil))) (vCons (vCall F__law_take 2 (vCons (vVar 0) (vCons (vC (.int 4)) vNil))) vNil)))
    (sSeq (sAsg (vLc (iRg1 (vCons (vVar 3) vNil)) (gN 6) vYes (vLst vNil) [6]) (gN 5))
    (sSeq (sFor (iRg1 (vCons (vVar 3) vNil)) (gN 7)
    (sSeq (sFor (iRg2 (vCons (v2 S addV (vVar 7) (vC (.int 1))) (vCons (vVar 3) vNil))) (gN 8)
    (sSeq (sIf (vAnd (vTest (v2 S gtV (vCall F__law_take 2 (vCons (vVar 0) (vCons (vVar 2) vNil))) (vC (.int 0)))) (vOr (vTest (v2 S gtV (vVar 4) (vC (.int 0)))) (vTest (v2 S eqV' (v2 S (intsV (fun _ j => j ≠ 0) Int.fmod) (v2 S addV (vVar 7) (vVar 8)) (vC (.int 2))) (vC (.int 1))))))
    (sSeq (sDrop (vM S appendV (v2 S ixV (vVar 5) (vVar 7)) (vCons (vVar 8) vNil)))
    (sSeq (sDrop (vM S appendV (v2 S ixV (vVar 5) (vVar 8)) (vCons (vVar 7) vNil)))
    sNext))
    sNext)
    sNext))
    sNext))
    (sSeq (sRet (vCB S tupleV (vCons (vLc (iSq S (vVar 5)) (gN 9) vYes (vCB S tupleV (vCons (vCall F__law_mixed 2 (vCons (vVar 0) (vCons (vVar 9) vNil))) vNil)) [9]) vNil)))
    sNext))))
theorem v__law_wishes {f__law_mixed : Addr} {fd__law_mixed : FuncData} {F__law_mixed : FV} (o__law_mixed : DOk P w K mg base Pd 2 "_law_mixed" f__law_mixed fd__law_mixed ["tape", "some"] F__law_mixed) {f__law_take : Addr} {fd__law_take : FuncData} {F__law_take : FV} (o__law_take : DOk P w K mg base Pd 1 "_law_take" f__law_take fd__law_take ["tape", "limit"] F__law_take) (b_range : mg "range" = none) (b_tuple : mg "tuple" = none) (cdv : Value) (f : Addr) (A : Around) (outer : List Env) (s : Shared) (H : Hp) (E : XK) (hr : Room 2 (A.deeper (envOfC "_law_wishes" (L2.defScope s__law_wishes) s.heap.objs.size f cdv))) :
    VSs (cxV P w K mg base ["tape", "most", "share", "many", "word", "lists", "person", "one", "other", "some"] "_law_wishes" (L2.defScope s__law_wishes) f cdv A outer s H E) Pd E (L2.defBody s__law_wishes) (t__law_wishes Pd.S F__law_mixed F__law_take) :=
  (vss_cons (vs_par (i := 3) (j := 4) rfl sc__law_wishes.nd rfl rfl (by decide) rfl rfl (va_cons (ve_call o__law_take.ok (hr.mono (by decide)) (by rfl) o__law_take.at_ o__law_take.kp o__law_take.b passC (va_cons (vv 0) (va_cons (ve_add (vv 1) ve_int) va_nil))) (va_cons (ve_call o__law_take.ok (hr.mono (by decide)) (by rfl) o__law_take.at_ o__law_take.kp o__law_take.b passC (va_cons (vv 0) (va_cons ve_int va_nil))) va_nil)))
    (vss_cons (vs_lc (i := 5) (own := [("person", 6)])  rfl sc__law_wishes.nd rfl rfl (vi_range1 (by rfl) b_range (va_cons (vv 3) va_nil)) (blkOk_by (by rfl)) (fun _ _ _ _ _ => (vgw_name (i := 6) sc__law_wishes.nd rfl (.inl rfl) (by decide))) (fun _ _ _ _ _ => vts_nil) (fun _ _ _ _ _ => (ve_lst va_nil)))
    (vss_cons (vs_for ownC rfl (vi_range1 (by rfl) b_range (va_cons (vv 3) va_nil)) (vg_name (i := 7) sc__law_wishes.nd rfl (.inl rfl))
    (vss_cons (vs_for ownC rfl (vi_range2 (by rfl) b_range (va_cons (ve_add (vv 7) ve_int) (va_cons (vv 3) va_nil))) (vg_name (i := 8) sc__law_wishes.nd rfl (.inl rfl))
    (vss_cons (vs_if (vt_w (vw_and (vt_cmp c_gt (ve_call o__law_take.ok (hr.mono (by decide)) (by rfl) o__law_take.at_ o__law_take.kp o__law_take.b passC (va_cons (vv 0) (va_cons (vv 2) va_nil))) ve_int) (vw_and1 (vt_w (vw_or (vt_cmp c_gt (vv 4) ve_int) (vw_or1 (vt_cmp (c_eq (hu65 hr)) (ve_mod (ve_add (vv 7) (vv 8)) ve_int) ve_int)))))))
    (vss_cons (vs_expr (ve_append (ve_ix (vv 5) (vv 7)) (va_cons (vv 8) va_nil)))
    (vss_cons (vs_expr (ve_append (ve_ix (vv 5) (vv 8)) (va_cons (vv 7) va_nil)))
    vss_nil))
    vss_nil)
    vss_nil))
    vss_nil))
    (vss_cons (vs_ret (ve_tupleC (by rfl) b_tuple (va_cons (ve_lc (own := [("some", 9)]) rfl sc__law_wishes.nd (vi_sq (vv 5)) (blkOk_by (by rfl)) (fun _ _ _ _ _ => (vgw_name (i := 9) sc__law_wishes.nd rfl (.inl rfl) (by decide))) (fun _ _ _ _ _ => vts_nil) (fun _ _ _ _ _ => (ve_tupleC (by rfl) b_tuple (va_cons (ve_call o__law_mixed.ok (hr.mono (by decide)) (by rfl) o__law_mixed.at_ o__law_mixed.kp o__law_mixed.b pass0 (va_cons (vv 0) (va_cons (vv 9) va_nil))) va_nil)))) va_nil)))
    vss_nil))))
abbrev s__law_rank : Stmt := topS 32
theorem sc__law_rank : FnScope ["wishes", "person", "other"] ["wishes", "person", "other"] (L2.defScope s__law_rank) := ⟨rfl, rfl, rfl, by decide +kernel, rfl, by decide +kernel, by decide +kernel⟩
def t__law_rank (S : Option (Addr × List Int)) : TVs :=
  (sSeq (sRet (vIf (vTest (v2 S neV' (vVar 2) (vVar 1))) (vIndex S (v2 S ixV (vVar 0) (vVar 1)) (vCons (vVar 2) vNil)) (vCB S lenV (vCons (v2 S ixV (vVar 0) (vVar 1)) vNil))))
    sNext)
theorem v__law_rank (b_len : mg "len" = none) (cdv : Value) (f : Addr) (A : Around) (outer : List Env) (s : Shared) (H : Hp) (E : XK) (hr : Room 0 (A.deeper (envOfC "_law_rank" (L2.defScope s__law_rank) s.heap.objs.size f cdv))) :
    VSs (cxV P w K mg base ["wishes", "person", "other"] "_law_rank" (L2.defScope s__law_rank) f cdv A outer s H E) Pd E (L2.defBody s__law_rank) (t__law_rank Pd.S) :=
  (vss_cons (vs_ret (ve_if (vt_cmp (c_ne (hu65 hr)) (vv 2) (vv 1)) (ve_index (hu65 hr) (ve_ix (vv 0) (vv 1)) (va_cons (vv 2) va_nil)) (ve_len (by rfl) b_len (va_cons (ve_ix (vv 0) (vv 1)) va_nil))))
    vss_nil)
abbrev s__law_all_mates : Stmt := topS 33
theorem sc__law_all_mates : FnScope ["wishes", "found", "person", "longer", "some", "other"] ["wishes"] (L2.defScope s__law_all_mates) := ⟨rfl, rfl, rfl, by decide +kernel, rfl, by decide +kernel, by decide +kernel⟩
def t__law_all_mates (S : Option (Addr × List Int)) : TVs :=
  (sSeq (sAsg (vLst (vCons (vTup vNil) vNil)) (gN 1))
    (sSeq (sFor (iRg1 (vCons (vCB S lenV (vCons (vVar 0) vNil)) vNil)) (gN 2)
    (sSeq (sAsg (vLst vNil) (gN 3))
    (sSeq (sFor (iSq S (vVar 1)) (gN 4)
    (sSeq (sIf (vTest (v2 S (inV' false) (vVar 2) (vVar 4)))
    (sSeq (sDrop (vM S appendV (vVar 3) (vCons (v2 S addV (vVar 4) (vTup (vCons (vIndex S (vVar 4) (vCons (vVar 2) vNil)) vNil))) vNil)))
    sNext)
    (sSeq (sDrop (vM S extendV (vVar 3) (vCons (vLc (iRg2 (vCons (vVar 2) (vCons (vCB S lenV (vCons (vVar 0) vNil)) vNil))) (gN 5) (vAnd (vTest (v2 S (inV' true) (vVar 5) (vVar 4))) (vOr (vTest (v2 S eqV' (vVar 5) (vVar 2))) (vTest (v2 S (inV' false) (vVar 5) (v2 S ixV (vVar 0) (vVar 2)))))) (v2 S addV (vVar 4) (vTup (vCons (vVar 5) vNil))) [5]) vNil)))
    sNext))
    sNext))
    (sSeq (sAsg (vVar 3) (gN 1))
    sNext))))
    (sSeq (sRet (vCB S sortV (vCons (vVar 1) vNil)))
    sNext)))
theorem v__law_all_mates (b_len : mg "len" = none) (b_range : mg "range" = none) (b_sorted : mg "sorted" = none) (cdv : Value) (f : Addr) (A : Around) (outer : List Env) (s : Shared) (H : Hp) (E : XK) (hr : Room 0 (A.deeper (envOfC "_law_all_mates" (L2.defScope s__law_all_mates) s.heap.objs.size f cdv))) :
    VSs (cxV P w K mg base ["wishes", "found", "person", "longer", "some", "other"] "_law_all_mates" (L2.defScope s__law_all_mates) f cdv A outer s H E) Pd E (L2.defBody s__law_all_mates) (t__law_all_mates Pd.S) :=
  (vss_cons (vs_set (i := 1) sc__law_all_mates.nd rfl (.inl rfl) (ve_lst (va_cons (ve_tup va_nil) va_nil)))
    (vss_cons (vs_for ownC rfl (vi_range1 (by rfl) b_range (va_cons (ve_len (by rfl) b_len (va_cons (vv 0) va_nil)) va_nil)) (vg_name (i := 2) sc__law_all_mates.nd rfl (.inr rfl))
    (vss_cons (vs_set (i := 3) sc__law_all_mates.nd rfl (.inl rfl) (ve_lst va_nil))
    (vss_cons (vs_for ownC rfl (vi_sq (vv 1)) (vg_name (i := 4) sc__law_all_mates.nd rfl (.inr rfl))
    (vss_cons (vs_if (vt_cmp (c_in (hu65 hr)) (vv 2) (vv 4))
    (vss_cons (vs_expr (ve_append (vv 3) (va_cons (ve_add (vv 4) (ve_tup (va_cons (ve_index (hu65 hr) (vv 4) (va_cons (vv 2) va_nil)) va_nil))) va_nil)))
    vss_nil)
    (vss_cons (vs_expr (ve_extend (vv 3) (va_cons (ve_lc (own := [("other", 5)]) rfl sc__law_all_mates.nd (vi_range2 (by rfl) b_range (va_cons (vv 2) (va_cons (ve_len (by rfl) b_len (va_cons (vv 0) va_nil)) va_nil))) (blkOk_by (by rfl)) (fun _ _ _ _ _ => (vgw_name (i := 5) sc__law_all_mates.nd rfl (.inl rfl) (by decide))) (fun _ _ _ _ _ => (vts_one (vt_w (vw_and (vt_cmp (c_notIn (hu65 hr)) (vv 5) (vv 4)) (vw_and1 (vt_w (vw_or (vt_cmp (c_eq (hu65 hr)) (vv 5) (vv 2)) (vw_or1 (vt_cmp (c_in (hu65 hr)) (vv 5) (ve_ix (vv 0) (vv 2))))))))))) (fun _ _ _ _ _ => (ve_add (vv 4) (ve_tup (va_cons (vv 5) va_nil))))) va_nil)))
    vss_nil))
    vss_nil))
    (vss_cons (vs_set (i := 1) sc__law_all_mates.nd rfl (.inl rfl) (vv 3))
    vss_nil))))
    (vss_cons (vs_ret (ve_sorted (by rfl) b_sorted (va_cons (vv 1) va_nil)))
    vss_nil)))
abbrev s__law_blocks : Stmt := topS 34
theorem sc__law_blocks : FnScope ["wishes", "mates", "found", "one", "other"] ["wishes", "mates"] (L2.defScope s__law_blocks) := ⟨rfl, rfl, rfl, by decide +kernel, rfl, by decide +kernel, by decide +kernel⟩
def t__law_blocks (S : Option (Addr × List Int)) (F__law_rank : FV) : TVs :=
  (sSeq (sAsg (vLst vNil) (gN 2))
    (sSeq (sFor (iRg1 (vCons (vCB S lenV (vCons (vVar 0) vNil)) vNil)) (gN 3)
    (sSeq (sFor (iRg2 (vCons (v2 S addV (vVar 3) (vC (.int 1))) (vCons (vCB S lenV (vCons (vVar 0) vNil)) vNil))) (gN 4)
    (sSeq (sIf (vAnd (vTest (v2 S (inV' false) (vVar 4) (v2 S ixV (vVar 0) (vVar 3)))) (vTest (v2 S ltV (vCall F__law_rank 3 (vCons (vVar 0) (vCons (vVar 3) (vCons (vVar 4) vNil)))) (vCall F__law_rank 3 (vCons (vVar 0) (vCons (vVar 3) (vCons (v2 S ixV (vVar 1) (vVar 3)) vNil)))))))
    (sSeq (sIf (vTest (v2 S ltV (vCall F__law_rank 3 (vCons (vVar 0) (vCons (vVar 4) (vCons (vVar 3) vNil)))) (vCall F__law_rank 3 (vCons (vVar 0) (vCons (vVar 4) (vCons (v2 S ixV (vVar 1) (vVar 4)) vNil))))))
    (sSeq (sDrop (vM S appendV (vVar 2) (vCons (vTup (vCons (vVar 3) (vCons (vVar 4) vNil))) vNil)))
    sNext)
    sNext)
    sNext)
    sNext)
    sNext))
    sNext))
    (sSeq (sRet (vVar 2))
    sNext)))
theorem v__law_blocks {f__law_rank : Addr} {fd__law_rank : FuncData} {F__law_rank : FV} (o__law_rank : DOk P w K mg base Pd 1 "_law_rank" f__law_rank fd__law_rank ["wishes", "person", "other"] F__law_rank) (b_len : mg "len" = none) (b_range : mg "range" = none) (cdv : Value) (f : Addr) (A : Around) (outer : List Env) (s : Shared) (H : Hp) (E : XK) (hr : Room 1 (A.deeper (envOfC "_law_blocks" (L2.defScope s__law_blocks) s.heap.objs.size f cdv))) :
    VSs (cxV P w K mg base ["wishes", "mates", "found", "one", "other"] "_law_blocks" (L2.defScope s__law_blocks) f cdv A outer s H E) Pd E (L2.defBody s__law_blocks) (t__law_blocks Pd.S F__law_rank) :=
  (vss_cons (vs_set (i := 2) sc__law_blocks.nd rfl (.inl rfl) (ve_lst va_nil))
    (vss_cons (vs_for ownC rfl (vi_range1 (by rfl) b_range (va_cons (ve_len (by rfl) b_len (va_cons (vv 0) va_nil)) va_nil)) (vg_name (i := 3) sc__law_blocks.nd rfl (.inl rfl))
    (vss_cons (vs_for ownC rfl (vi_range2 (by rfl) b_range (va_cons (ve_add (vv 3) ve_int) (va_cons (ve_len (by rfl) b_len (va_cons (vv 0) va_nil)) va_nil))) (vg_name (i := 4) sc__law_blocks.nd rfl (.inl rfl))
    (vss_cons (vs_if (vt_w (vw_and (vt_cmp (c_in (hu65 hr)) (vv 4) (ve_ix (vv 0) (vv 3))) (vw_and1 (vt_cmp c_lt (ve_call o__law_rank.ok (hr.mono (by decide)) (by rfl) o__law_rank.at_ o__law_rank.kp o__law_rank.b passC (va_cons (vv 0) (va_cons (vv 3) (va_cons (vv 4) va_nil)))) (ve_call o__law_rank.ok (hr.mono (by decide)) (by rfl) o__law_rank.at_ o__law_rank.kp o__law_rank.b passC (va_cons (vv 0) (va_cons (vv 3) (va_cons (ve_ix (vv 1) (vv 3)) va_nil))))))))
    (vss_cons (vs_if (vt_cmp c_lt (ve_call o__law_rank.ok (hr.mono (by decide)) (by rfl) o__law_rank.at_ o__law_rank.kp o__law_rank.b passC (va_cons (vv 0) (va_cons (vv 4) (va_cons (vv 3) va_nil)))) (ve_call o__law_rank.ok (hr.mono (by decide)) (by rfl) o__law_rank.at_ o__law_rank.kp o__law_rank.b passC (va_cons (vv 0) (va_cons (vv 4) (va_cons (ve_ix (vv 1) (vv 4)) va_nil)))))
    (vss_cons (vs_expr (ve_append (vv 2) (va_cons (ve_tup (va_cons (vv 3) (va_cons (vv 4) va_nil))) va_nil)))
    vss_nil)
    vss_nil)
    vss_nil)
    vss_nil)
    vss_nil))
    vss_nil))
    (vss_cons (vs_ret (vv 2))
    vss_nil)))
abbrev s__law_steady : Stmt := topS 35
theorem sc__law_steady : FnScope ["wishes", "mates"] ["wishes"] (L2.defScope s__law_steady) := ⟨rfl, rfl, rfl, by decide +kernel, rfl, by decide +kernel, by decide +kernel⟩
def t__law_steady (S : Option (Addr × List Int)) (F__law_all_mates F__law_blocks : FV) : TVs :=
  (sSeq (sRet (vLc (iSq S (vCall F__law_all_mates 1 (vCons (vVar 0) vNil))) (gN 1) (vTest (v2 S eqV' (vCall F__law_blocks 2 (vCons (vVar 0) (vCons (vVar 1) vNil))) (vLst vNil))) (vVar 1) [1]))
    sNext)
theorem v__law_steady {f__law_all_mates : Addr} {fd__law_all_mates : FuncData} {F__law_all_mates : FV} (o__law_all_mates : DOk P w K mg base Pd 1 "_law_all_mates" f__law_all_mates fd__law_all_mates ["wishes"] F__law_all_mates) {f__law_blocks : Addr} {fd__law_blocks : FuncData} {F__law_blocks : FV} (o__law_blocks : DOk P w K mg base Pd 2 "_law_blocks" f__law_blocks fd__law_blocks ["wishes", "mates"] F__law_blocks) (cdv : Value) (f : Addr) (A : Around) (outer : List Env) (s : Shared) (H : Hp) (E : XK) (hr : Room 2 (A.deeper (envOfC "_law_steady" (L2.defScope s__law_steady) s.heap.objs.size f cdv))) :
    VSs (cxV P w K mg base ["wishes", "mates"] "_law_steady" (L2.defScope s__law_steady) f cdv A outer s H E) Pd E (L2.defBody s__law_steady) (t__law_steady Pd.S F__law_all_mates F__law_blocks) :=
  (vss_cons (vs_ret (ve_lc (own := [("mates", 1)]) rfl sc__law_steady.nd (vi_sq (ve_call o__law_all_mates.ok (hr.mono (by decide)) (by rfl) o__law_all_mates.at_ o__law_all_mates.kp o__law_all_mates.b passC (va_cons (vv 0) va_nil))) (blkOk_by (by rfl)) (fun _ _ _ _ _ => (vgw_name (i := 1) sc__law_steady.nd rfl (.inl rfl) (by decide))) (fun _ _ _ _ _ => (vts_one (vt_cmp (c_eq (hu65 hr)) (ve_call o__law_blocks.ok (hr.mono (by decide)) (by rfl) o__law_blocks.at_ o__law_blocks.kp o__law_blocks.b pass0 (va_cons (vv 0) (va_cons (vv 1) va_nil))) (ve_lst va_nil)))) (fun _ _ _ _ _ => (vv 1))))
    vss_nil)
abbrev s__law_many : Stmt := topS 39
theorem sc__law_many : FnScope ["tape", "half", "first", "step", "person", "second"] ["tape"] (L2.defScope s__law_many) := ⟨rfl, rfl, rfl, by decide +kernel, rfl, by decide +kernel, by decide +kernel⟩
def t__law_many (S : Option (Addr × List Int)) (F__law_take : FV) : TVs :=
  (sSeq (sAsg (v2 S addV (vC (.int 2)) (vCall F__law_take 2 (vCons (vVar 0) (vCons (vC (.int 3)) vNil)))) (gN 1))
    (sSeq (sAsg (vCB S tupleV (vCons (vLc (iRg1 (vCons (vVar 1) vNil)) (gN 4) vYes (vCB S tupleV (vCons (vLc (iRg1 (vCons (vVar 1) vNil)) (gN 3) vYes (v2 S addV (vVar 1) (v2 S (intsV (fun _ j => j ≠ 0) Int.fmod) (v2 S addV (vVar 4) (vVar 3)) (vVar 1))) [3]) vNil)) [4]) vNil)) (gN 2))
    (sSeq (sAsg (vCB S tupleV (vCons (vLc (iRg1 (vCons (vVar 1) vNil)) (gN 4) vYes (vCB S tupleV (vCons (vLc (iRg1 (vCons (vVar 1) vNil)) (gN 3) vYes (v2 S (intsV (fun _ j => j ≠ 0) Int.fmod) (v2 S addV (v2 S addV (vVar 4) (vC (.int 1))) (vVar 3)) (vVar 1)) [3]) vNil)) [4]) vNil)) (gN 5))
    (sSeq (sRet (v2 S addV (vVar 2) (vVar 5)))
    sNext))))
theorem v__law_many {f__law_take : Addr} {fd__law_take : FuncData} {F__law_take : FV} (o__law_take : DOk P w K mg base Pd 1 "_law_take" f__law_take fd__law_take ["tape", "limit"] F__law_take) (b_range : mg "range" = none) (b_tuple : mg "tuple" = none) (cdv : Value) (f : Addr) (A : Around) (outer : List Env) (s : Shared) (H : Hp) (E : XK) (hr : Room 1 (A.deeper (envOfC "_law_many" (L2.defScope s__law_many) s.heap.objs.size f cdv))) :
    VSs (cxV P w K mg base ["tape", "half", "first", "step", "person", "second"] "_law_many" (L2.defScope s__law_many) f cdv A outer s H E) Pd E (L2.defBody s__law_many) (t__law_many Pd.S F__law_take) :=
  (vss_cons (vs_set (i := 1) sc__law_many.nd rfl (.inr rfl) (ve_add ve_int (ve_call o__law_take.ok (hr.mono (by decide)) (by rfl) o__law_take.at_ o__law_take.kp o__law_take.b passC (va_cons (vv 0) (va_cons ve_int va_nil)))))
    (vss_cons (vs_set (i := 2) sc__law_many.nd rfl (.inl rfl) (ve_tupleC (by rfl) b_tuple (va_cons (ve_lc (own := [("person", 4)]) rfl sc__law_many.nd (vi_range1 (by rfl) b_range (va_cons (vv 1) va_nil)) (blkOk_by (by rfl)) (fun _ _ _ _ _ => (vgw_name (i := 4) sc__law_many.nd rfl (by first | exact .inl rfl | exact .inr rfl) (by decide))) (fun _ _ _ _ _ => vts_nil) (fun _ _ _ _ _ => (ve_tupleC (by rfl) b_tuple (va_cons (ve_lc (own := [("step", 3)]) rfl sc__law_many.nd (vi_range1 (by rfl) b_range (va_cons (vv 1) va_nil)) (blkOk_by (by rfl)) (fun _ _ _ _ _ => (vgw_name (i := 3) sc__law_many.nd rfl (by first | exact .inl rfl | exact .inr rfl) (by decide))) (fun _ _ _ _ _ => vts_nil) (fun _ _ _ _ _ => (ve_add (vv 1) (ve_mod (ve_add (vv 4) (vv 3)) (vv 1))))) va_nil)))) va_nil)))
    (vss_cons (vs_set (i := 5) sc__law_many.nd rfl (.inl rfl) (ve_tupleC (by rfl) b_tuple (va_cons (ve_lc (own := [("person", 4)]) rfl sc__law_many.nd (vi_range1 (by rfl) b_range (va_cons (vv 1) va_nil)) (blkOk_by (by rfl)) (fun _ _ _ _ _ => (vgw_name (i := 4) sc__law_many.nd rfl (by first | exact .inl rfl | exact .inr rfl) (by decide))) (fun _ _ _ _ _ => vts_nil) (fun _ _ _ _ _ => (ve_tupleC (by rfl) b_tuple (va_cons (ve_lc (own := [("step", 3)]) rfl sc__law_many.nd (vi_range1 (by rfl) b_range (va_cons (vv 1) va_nil)) (blkOk_by (by rfl)) (fun _ _ _ _ _ => (vgw_name (i := 3) sc__law_many.nd rfl (by first | exact .inl rfl | exact .inr rfl) (by decide))) (fun _ _ _ _ _ => vts_nil) (fun _ _ _ _ _ => (ve_mod (ve_add (ve_add (vv 4) ve_int) (vv 3)) (vv 1)))) va_nil)))) va_nil)))
    (vss_cons (vs_ret (ve_add (vv 2) (vv 5)))
    vss_nil))))
end
end K75

-- part B10
set_option Elab.async false
set_option linter.all false
set_option maxRecDepth 100000
set_option maxHeartbeats 1000000
/-! Plain laws, part 10: the law's own: _law_take, _law_rank, _law_blocks. -/
namespace K75
open PySem PySem.Spec PyProof.Rows L2 VL LamX
theorem vput_id {vh : VH} {a : Addr} {c : Cel} (h : vh a = some c) : vput vh a c = vh := by
  funext b
  by_cases e : b = a
  · subst e; rw [vput_same, h]
  · rw [vput_ne e]
theorem vput_comm {vh : VH} {a b : Addr} {c d : Cel} (h : a ≠ b) : vput (vput vh a c) b d = vput (vput vh b d) a c := by
  funext x
  unfold vput
  by_cases e : x = a
  · subst e; simp [h]
  · simp [e]
abbrev tpU (ns : List Int) : Cel := .lst (ns.map U.int)
/-- the tape gives a number below n -/
def F_take : FV := fun us vh R _ => ∃ a n ns, us = [.ref a, .int n] ∧ vh a = some (tpU ns) ∧ 0 < n ∧ ∀ r ns', 0 ≤ r → r < n → R (.int r) (vput vh a (tpU ns'))
theorem f_take {a : Addr} {n : Int} {ns : List Int} {vh : VH} {R : U → VH → Prop} {Z : XV} (h : vh a = some (tpU ns)) (hn : 0 < n) (r : ∀ r ns', 0 ≤ r → r < n → R (.int r) (vput vh a (tpU ns'))) : F_take [.ref a, .int n] vh R Z := ⟨a, n, ns, rfl, h, hn, r⟩
theorem b_take {S : SS} : BodyV F_take 2 2 (t__law_take S) := by
  rintro us vh R Z hl ⟨a, n, ns, rfl, ha, hn, r⟩
  clear hl
  simp [t__law_take, ltV, leV, gtV, geV, sumV, maxV, minV, allV, anyV, sortV, sNext, sSeq, sNever, sBreak, sDrop, sRet, sRetN, sIf, gN, gNl, gCn, gTp, gSb, sAsg, sPar, vVar, vC, vNil, vCons, vTup, vLst, v2, addV, intsV, ints0V, mulV, vNeg, eqV', neV', inV', isV, VL.isNon, vTest, vChain, vAnd, vOr, vNot, vAndV, vOrV, vNotV, vIf, ixV, vNo, vPart, vSl, sliceV, vLc_eq, vDc_eq, sFor_eq, sWhile_eq, iSq, iRg1, iRg2, iEn, iZp, vCB, lenV, listV, tupleV, intV1, absV1, ofInts, ofBls, two, vIsi, vM, vM0, appendV, extendV, popV, popAtV, vIndex, vDnew, vCall, sRaise, vYes, vRev, getV, startV, wipeV]
  intro p hp
  have e1 : vput vh p (.lst []) a = some (tpU ns) := putO ha hp
  refine eqR_lists (asL_of e1) asL_new (okDs_ints _ _) rfl ?_
  rw [eqUs_nil]
  by_cases c : ns = []
  · subst c
    simp
    have := r 0 [] (by omega) hn
    rw [vput_id ha] at this
    exact RD.of this ((SubH.refl _).put hp)
  · obtain ⟨i, x, rfl⟩ := last_of c
    simp [asL_of e1, ownL_of e1]
    have hne : p ≠ a := fun z => by subst z; rw [hp] at ha; cases ha
    refine ⟨by omega, ?_⟩
    have := r (Int.fmod x n) i (Int.fmod_nonneg_of_pos _ hn) (Int.fmod_lt_of_pos _ hn)
    rw [vput_comm hne]
    exact RD.of this ((SubH.refl _).put (by rw [vput_ne hne]; exact hp))
theorem b_lrank {S : SS} : BodyV F_rank_by 3 3 (t__law_rank S) := b_rank_by
/-- what the law's own search for blocks finds -/
def lbAt (W : List (List Int)) (m : List Int) (i : Int) : List (List Int) := ((rng (i + 1) W.length).filter fun o => decide (o ∈ wAt W i) && wbk W m i o).map fun o => [i, o]
def lblk (W : List (List Int)) (m : List Int) : List (List Int) := (rng 0 W.length).flatMap (lbAt W m)
def F_lblocks : FV := fun us vh R _ => ∃ W m, us = [WU W, tupI m] ∧ VW W ∧ GM W m ∧ newL vh ((lblk W m).map tupI) R
theorem rngU_eq (a b : Int) : rngU a (b - a).toNat = (rng a b).map U.int := by simp [rngU, rng, List.map_map, Function.comp_def]
theorem rngU0 (b : Nat) : rngU 0 b = (rng 0 b).map U.int := by simp [rngU, rng, List.map_map, Function.comp_def]
theorem b62 {i : Int} (h : -1000 ≤ i) (h2 : i ≤ 1000) : B62 i := by unfold B62; omega
theorem lb_len {W : List (List Int)} {m : List Int} {i : Int} (v : VW W) (h : 0 ≤ i) : (lbAt W m i).length ≤ 8 := by
  have := List.length_filter_le (fun o => decide (o ∈ wAt W i) && wbk W m i o) (rng (i + 1) W.length)
  rw [rng_len] at this
  have := v.len
  simp only [lbAt, List.length_map]
  omega
theorem b_lblocks {S : SS} : BodyV F_lblocks 5 2 (t__law_blocks S F_rank_by) := by
  rintro us vh R Z hl ⟨W, m, rfl, v, g, r⟩
  clear hl
  have hz := sz1m
  have h8 := v.len
  simp [t__law_blocks, ltV, leV, gtV, geV, sumV, maxV, minV, allV, anyV, sortV, sNext, sSeq, sNever, sBreak, sDrop, sRet, sRetN, sIf, gN, gNl, gCn, gTp, gSb, sAsg, sPar, vVar, vC, vNil, vCons, vTup, vLst, v2, addV, intsV, ints0V, mulV, vNeg, eqV', neV', inV', isV, VL.isNon, vTest, vChain, vAnd, vOr, vNot, vAndV, vOrV, vNotV, vIf, ixV, vNo, vPart, vSl, sliceV, vLc_eq, vDc_eq, sFor_eq, sWhile_eq, iSq, iRg1, iRg2, iEn, iZp, vCB, lenV, listV, tupleV, intV1, absV1, ofInts, ofBls, two, vIsi, vM, vM0, appendV, extendV, popV, popAtV, vIndex, vDnew, vCall, sRaise, vYes, vRev, getV, startV, wipeV]
  intro p hp
  refine ⟨b62 (by omega) (by omega), ?_⟩
  rw [rngU0]
  refine ForB.ofm (rng 0 W.length) _ rfl (fun _ => trivial) (fun pre Γ vh' => SubH vh vh' ∧ (∃ b c, Γ = [some (WU W), some (tupI m), some (.ref p), b, c]) ∧ vh' p = some (.lst ((pre.flatMap (lbAt W m)).map tupI)))
    ⟨(SubH.refl _).put hp, ⟨_, _, rfl⟩, vput_same⟩ (fun Γ' vh' ⟨s', ⟨b, c, hΓ⟩, e3⟩ => ?_) fun pre i suf Γ' vh' e1 ⟨s', ⟨b, c, hΓ⟩, e3⟩ => ?_
  · subst hΓ
    simp [ltV, leV, gtV, geV, sumV, maxV, minV, allV, anyV, sortV, sNext, sSeq, sNever, sBreak, sDrop, sRet, sRetN, sIf, gN, gNl, gCn, gTp, gSb, sAsg, sPar, vVar, vC, vNil, vCons, vTup, vLst, v2, addV, intsV, ints0V, mulV, vNeg, eqV', neV', inV', isV, VL.isNon, vTest, vChain, vAnd, vOr, vNot, vAndV, vOrV, vNotV, vIf, ixV, vNo, vPart, vSl, sliceV, vLc_eq, vDc_eq, sFor_eq, sWhile_eq, iSq, iRg1, iRg2, iEn, iZp, vCB, lenV, listV, tupleV, intV1, absV1, ofInts, ofBls, two, vIsi, vM, vM0, appendV, extendV, popV, popAtV, vIndex, vDnew, vCall, sRaise, vYes, vRev, getV, startV, wipeV]
    have := r p hp
    refine ⟨_, ?_, this⟩
    intro x cc hx
    by_cases e : x = p
    · subst e; rw [vput_same] at hx; cases hx; exact e3
    · rw [vput_ne e] at hx; exact s' _ _ hx
  · subst hΓ
    have hi := mem_rng.1 (show i ∈ rng 0 W.length by rw [e1]; simp)
    simp [ltV, leV, gtV, geV, sumV, maxV, minV, allV, anyV, sortV, sNext, sSeq, sNever, sBreak, sDrop, sRet, sRetN, sIf, gN, gNl, gCn, gTp, gSb, sAsg, sPar, vVar, vC, vNil, vCons, vTup, vLst, v2, addV, intsV, ints0V, mulV, vNeg, eqV', neV', inV', isV, VL.isNon, vTest, vChain, vAnd, vOr, vNot, vAndV, vOrV, vNotV, vIf, ixV, vNo, vPart, vSl, sliceV, vLc_eq, vDc_eq, sFor_eq, sWhile_eq, iSq, iRg1, iRg2, iEn, iZp, vCB, lenV, listV, tupleV, intV1, absV1, ofInts, ofBls, two, vIsi, vM, vM0, appendV, extendV, popV, popAtV, vIndex, vDnew, vCall, sRaise, vYes, vRev, getV, startV, wipeV]
    refine ⟨b62 (by omega) (by omega), b62 (by omega) (by omega), ?_⟩
    rw [rngU_eq]
    have hpl := pre_len e1
    rw [rng_len] at hpl
    have h9 := flat_len (l := pre) (f := lbAt W m) (k := 8) fun x hx => lb_len v (mem_rng.1 (show x ∈ rng 0 W.length by rw [e1]; simp [hx])).1
    refine ForB.ofm (rng (i + 1) W.length) _ rfl (fun _ => trivial) (fun pre2 Γ vh' => SubH vh vh' ∧ (∃ b, Γ = [some (WU W), some (tupI m), some (.ref p), some (.int i), b]) ∧ vh' p = some (.lst ((pre.flatMap (lbAt W m) ++ (pre2.filter fun o => decide (o ∈ wAt W i) && wbk W m i o).map fun o => [i, o]).map tupI)))
      ⟨s', ⟨_, rfl⟩, by simpa using e3⟩ (fun Γ' vh' ⟨s2, ⟨b2, hΓ⟩, e4⟩ => ?_) fun pre2 o suf2 Γ' vh2 e5 ⟨s2, ⟨b2, hΓ⟩, e4⟩ => ?_
    · subst hΓ
      refine ⟨s2, ⟨_, _, rfl⟩, ?_⟩
      rw [e4]
      simp [lbAt]
    · subst hΓ
      have ho := mem_rng.1 (show o ∈ rng (i + 1) W.length by rw [e5]; simp)
      have hlen2 : (pre2.filter fun o => decide (o ∈ wAt W i) && wbk W m i o).length ≤ 8 := by
        have := List.length_filter_le (fun o => decide (o ∈ wAt W i) && wbk W m i o) pre2
        have := pre_len e5
        rw [rng_len] at this
        omega
      have mi := at_m (m := m) hi.1 (by rw [g.len]; exact hi.2)
      have mo := at_m (m := m) (i := o) (by omega) (by rw [g.len]; exact ho.2)
      simp [ltV, leV, gtV, geV, sumV, maxV, minV, allV, anyV, sortV, sNext, sSeq, sNever, sBreak, sDrop, sRet, sRetN, sIf, gN, gNl, gCn, gTp, gSb, sAsg, sPar, vVar, vC, vNil, vCons, vTup, vLst, v2, addV, intsV, ints0V, mulV, vNeg, eqV', neV', inV', isV, VL.isNon, vTest, vChain, vAnd, vOr, vNot, vAndV, vOrV, vNotV, vIf, ixV, vNo, vPart, vSl, sliceV, vLc_eq, vDc_eq, sFor_eq, sWhile_eq, iSq, iRg1, iRg2, iEn, iZp, vCB, lenV, listV, tupleV, intV1, absV1, ofInts, ofBls, two, vIsi, vM, vM0, appendV, extendV, popV, popAtV, vIndex, vDnew, vCall, sRaise, vYes, vRev, getV, startV, wipeV, at_W hi.1 hi.2]
      simp only [tupI, asSq_tup, okDs_ints, okD, inU_ints, true_and]
      by_cases c : o ∈ wAt W i
      · have hs := v.sym i hi.1 hi.2 o c
        simp [c, mi, mo]
        refine f_rank_by hi.1 hi.2 (fun _ => c) ?_
        refine f_rank_by hi.1 hi.2 (g.ok i hi.1 hi.2) ?_
        by_cases c2 : rk W i o < rk W i (iAt m i)
        · simp [c2]
          refine f_rank_by (by omega) ho.2 (fun _ => hs) ?_
          refine f_rank_by (by omega) ho.2 (g.ok o (by omega) ho.2) ?_
          by_cases c3 : rk W o i < rk W o (iAt m o)
          · have hw : wbk W m i o = true := by simp [wbk, c2, c3]
            simp [c3, asL_of e4, ownL_of e4, List.filter_append, c, hw]
            rw [List.length_flatMap] at h9
            refine ⟨by omega, by omega, s2.put hp, ?_⟩
            rw [vput_same]; simp [tupI]
          · have hw : wbk W m i o = false := by simp [wbk, c3]
            simp [c3, List.filter_append, c, hw]
            exact ⟨s2, by simpa using e4⟩
        · have hw : wbk W m i o = false := by simp [wbk, c2]
          simp [c2, List.filter_append, c, hw]
          exact ⟨s2, by simpa using e4⟩
      · simp [c, List.filter_append]
        exact ⟨s2, by simpa using e4⟩
end K75

-- part B11
set_option Elab.async false
set_option linter.all false
set_option maxRecDepth 100000
set_option maxHeartbeats 1000000
/-! Plain laws, part 11: the layers of the law's own search are the stack's findings. -/
namespace K75
open PySem PySem.Spec PyProof.Rows L2 VL LamX
def latR (W : List (List Int)) (s : List Int) : List Int := (rng s.length W.length).filter fun o => !decide (o ∈ s) && (decide (o = (s.length : Int)) || decide (o ∈ wAt W s.length))
def kidsR (W : List (List Int)) (s : List Int) : List (List Int) := if (s.length : Int) ∈ s then [s ++ [(s.idxOf (s.length : Int) : Int)]] else (latR W s).map fun o => s ++ [o]
def lay (W : List (List Int)) : Nat → List (List Int)
  | 0 => [[]]
  | k + 1 => (lay W k).flatMap (kidsR W)
theorem lat_perm {W : List (List Int)} {s : List Int} (v : VW W) (hl : s.length < W.length) (hm : (s.length : Int) ∉ s) : (latR W s).Perm (latL W s ++ [(s.length : Int)]) := by
  have nd1 : (latR W s).Nodup := rng_nd.filter _
  have nd2 : (latL W s ++ [(s.length : Int)]).Nodup := by
    refine List.nodup_append.2 ⟨(v.nd s.length (by omega) (by omega)).filter _, by simp, fun a ha b hb e => ?_⟩
    cases List.mem_singleton.1 hb
    subst e
    simp [latL] at ha
  refine (List.perm_ext_iff_of_nodup nd1 nd2).2 fun o => ?_
  simp only [latR, latL, List.mem_filter, mem_rng, List.mem_append, List.mem_singleton, Bool.and_eq_true, Bool.or_eq_true, Bool.not_eq_true', decide_eq_true_eq, decide_eq_false_iff_not]
  constructor
  · rintro ⟨⟨a, b⟩, c, d⟩
    rcases d with d | d
    · exact .inr d
    · have := (v.rg s.length (by omega) (by omega) o d).2.2
      exact .inl ⟨d, by omega, c⟩
  · rintro (⟨a, b, c⟩ | rfl)
    · have := v.rg s.length (by omega) (by omega) o a
      exact ⟨⟨by omega, this.2.1⟩, c, .inr a⟩
    · exact ⟨⟨by omega, by omega⟩, hm, .inl rfl⟩
theorem kids_perm {W : List (List Int)} {s : List Int} (v : VW W) (hl : s.length < W.length) : (kidsR W s).Perm (kidsL W s) := by
  unfold kidsR kidsL
  split
  · exact .refl _
  · rename_i hm
    exact (lat_perm v hl hm).map _
theorem flat_perm {α β : Type} {f g : α → List β} : ∀ {l : List α}, (∀ x ∈ l, (f x).Perm (g x)) → (l.flatMap f).Perm (l.flatMap g)
  | [], _ => .refl _
  | x :: l, h => by
    simp only [List.flatMap_cons]
    exact (h x (by simp)).append (flat_perm fun y hy => h y (by simp [hy]))
theorem lay_pm {W : List (List Int)} (v : VW W) : ∀ k, k ≤ W.length → ∀ s ∈ lay W k, PM W s ∧ s.length = k
  | 0, _, s, h => by cases List.mem_singleton.1 h; exact ⟨PM.nil, rfl⟩
  | k + 1, hk, s, h => by
    obtain ⟨t, ht, hs⟩ := List.mem_flatMap.1 h
    have i := lay_pm v k (by omega) t ht
    have hs := (kids_perm v (by omega)).mem_iff.1 hs
    have := kids_pm v i.1 (by omega) hs
    exact ⟨this.1, by omega⟩
theorem lay_full {W : List (List Int)} (v : VW W) : ∀ k, k ≤ W.length → ((lay W k).flatMap (fullL W)).Perm (fullL W [])
  | 0, _ => by simp [lay]
  | k + 1, hk => by
    refine List.Perm.trans ?_ (lay_full v k (by omega))
    simp only [lay, List.flatMap_assoc]
    refine flat_perm fun s hs => ?_
    have i := lay_pm v k (by omega) s hs
    rw [full_kids (by omega)]
    exact (kids_perm v (by omega)).flatMap_right _
theorem lay_end {W : List (List Int)} (v : VW W) : (lay W W.length).Perm (fullL W []) := by
  have := lay_full v W.length (Nat.le_refl _)
  rw [flatMap_cg (g := fun s => [s]) fun s hs => full_done (lay_pm v _ (Nat.le_refl _) s hs).2] at this
  simpa using this
theorem lay_len {W : List (List Int)} (v : VW W) : ∀ k, k ≤ W.length → (lay W k).length * nodes (W.length - k) ≤ nodes W.length
  | 0, _ => by simp [lay]
  | k + 1, hk => by
    have i := lay_len v k (by omega)
    have h := flat_len (l := lay W k) (f := kidsR W) (k := W.length - k) fun s hs => by
      have p := lay_pm v k (by omega) s hs
      rw [(kids_perm v (by omega)).length_eq]
      have := kids_le v (s := s) (by omega)
      omega
    have e : W.length - k = (W.length - (k + 1)) + 1 := by omega
    have h2 : (lay W (k + 1)).length * nodes (W.length - (k + 1)) ≤ (lay W k).length * (W.length - k) * nodes (W.length - (k + 1)) := Nat.mul_le_mul_right _ h
    have h3 : (W.length - k) * nodes (W.length - (k + 1)) ≤ nodes (W.length - k) := by
      rw [e]; simp only [nodes, Nat.add_sub_cancel]; omega
    have h4 := Nat.mul_le_mul_left (lay W k).length h3
    rw [← Nat.mul_assoc] at h4
    omega
theorem lay_le {W : List (List Int)} (v : VW W) {k : Nat} (hk : k ≤ W.length) : (lay W k).length ≤ 109601 := by
  have h := lay_len v k hk
  have h2 := nodes_pos (W.length - k)
  have h3 := nodes8 v.len
  have h4 : (lay W k).length * 1 ≤ (lay W k).length * nodes (W.length - k) := Nat.mul_le_mul_left _ h2
  omega
theorem sort_lay {W : List (List Int)} (v : VW W) : sortL (lay W W.length) = allL W := sortL_congr (lay_end v)
end K75

-- part B12
set_option Elab.async false
set_option linter.all false
set_option maxRecDepth 100000
set_option maxHeartbeats 1000000
/-! Plain laws, part 12: _law_all_mates, _law_steady. -/
namespace K75
open PySem PySem.Spec PyProof.Rows L2 VL LamX
theorem kidsR_len {W : List (List Int)} {s : List Int} (v : VW W) (hl : s.length < W.length) : (kidsR W s).length ≤ 8 := by
  rw [(kids_perm v hl).length_eq]
  have := kids_le v hl
  have := v.len
  omega
theorem b_lall {S : SS} : BodyV F_all_mates_by 6 1 (t__law_all_mates S) := by
  rintro us vh R Z hl ⟨W, rfl, v, r⟩
  clear hl
  have hz := sz1m
  have h8 := v.len
  simp [t__law_all_mates, ltV, leV, gtV, geV, sumV, maxV, minV, allV, anyV, sortV, sNext, sSeq, sNever, sBreak, sDrop, sRet, sRetN, sIf, gN, gNl, gCn, gTp, gSb, sAsg, sPar, vVar, vC, vNil, vCons, vTup, vLst, v2, addV, intsV, ints0V, mulV, vNeg, eqV', neV', inV', isV, VL.isNon, vTest, vChain, vAnd, vOr, vNot, vAndV, vOrV, vNotV, vIf, ixV, vNo, vPart, vSl, sliceV, vLc_eq, vDc_eq, sFor_eq, sWhile_eq, iSq, iRg1, iRg2, iEn, iZp, vCB, lenV, listV, tupleV, intV1, absV1, ofInts, ofBls, two, vIsi, vM, vM0, appendV, extendV, popV, popAtV, vIndex, vDnew, vCall, sRaise, vYes, vRev, getV, startV, wipeV]
  refine ⟨by omega, fun p0 hp0 => ?_⟩
  refine ⟨b62 (by omega) (by omega), ?_⟩
  rw [rngU0]
  refine ForB.ofm (rng 0 W.length) _ rfl (fun _ => trivial) (fun pre Γ vh' => SubH vh vh' ∧ ∃ pa b c d e, Γ = [some (WU W), some (.ref pa), b, c, d, e] ∧ vh pa = none ∧ vh' pa = some (.lst ((lay W pre.length).map tupI)))
    ⟨(SubH.refl _).put hp0, p0, _, _, _, _, rfl, hp0, vput_same⟩ (fun Γ' vh' ⟨s', pa, b, c, d, e, hΓ, hpa, e3⟩ => ?_) fun pre i suf Γ' vh' e1 ⟨s', pa, b, c, d, e, hΓ, hpa, e3⟩ => ?_
  · subst hΓ
    rw [rng_len] at e3
    simp at e3
    simp [ltV, leV, gtV, geV, sumV, maxV, minV, allV, anyV, sortV, sNext, sSeq, sNever, sBreak, sDrop, sRet, sRetN, sIf, gN, gNl, gCn, gTp, gSb, sAsg, sPar, vVar, vC, vNil, vCons, vTup, vLst, v2, addV, intsV, ints0V, mulV, vNeg, eqV', neV', inV', isV, VL.isNon, vTest, vChain, vAnd, vOr, vNot, vAndV, vOrV, vNotV, vIf, ixV, vNo, vPart, vSl, sliceV, vLc_eq, vDc_eq, sFor_eq, sWhile_eq, iSq, iRg1, iRg2, iEn, iZp, vCB, lenV, listV, tupleV, intV1, absV1, ofInts, ofBls, two, vIsi, vM, vM0, appendV, extendV, popV, popAtV, vIndex, vDnew, vCall, sRaise, vYes, vRev, getV, startV, wipeV, asL_of e3, tupIs_map]
    rw [sort_lay v]
    refine ⟨fun h2 ns hn hnil => ?_, fun q hq => RD.of (r q (s'.no hq)) s'.put2⟩
    have := (lay_pm v _ (Nat.le_refl _) ns hn).2
    subst hnil
    have h0 : W.length = 0 := by simpa using this.symm
    have hl := (lay_end v).length_eq
    rw [full_done (by simpa using h0.symm)] at hl
    simp at hl
    omega
  · subst hΓ
    have hpl : pre.length < W.length := by
      have := congrArg List.length e1
      simp [rng_len] at this
      omega
    have hi : i = (pre.length : Int) := by
      have : (rng 0 W.length)[pre.length]? = some i := by rw [e1]; simp
      simp [rng, List.getElem?_map, List.getElem?_range, hpl] at this
      omega
    subst hi
    simp [ltV, leV, gtV, geV, sumV, maxV, minV, allV, anyV, sortV, sNext, sSeq, sNever, sBreak, sDrop, sRet, sRetN, sIf, gN, gNl, gCn, gTp, gSb, sAsg, sPar, vVar, vC, vNil, vCons, vTup, vLst, v2, addV, intsV, ints0V, mulV, vNeg, eqV', neV', inV', isV, VL.isNon, vTest, vChain, vAnd, vOr, vNot, vAndV, vOrV, vNotV, vIf, ixV, vNo, vPart, vSl, sliceV, vLc_eq, vDc_eq, sFor_eq, sWhile_eq, iSq, iRg1, iRg2, iEn, iZp, vCB, lenV, listV, tupleV, intV1, absV1, ofInts, ofBls, two, vIsi, vM, vM0, appendV, extendV, popV, popAtV, vIndex, vDnew, vCall, sRaise, vYes, vRev, getV, startV, wipeV]
    intro pb hpb
    have hpb' : vh pb = none := s'.no hpb
    have hne : pa ≠ pb := fun z => by subst z; rw [e3] at hpb; cases hpb
    have e3' : vput vh' pb (.lst []) pa = some (.lst ((lay W pre.length).map tupI)) := putO e3 hpb
    have s1 : SubH vh (vput vh' pb (.lst [])) := s'.put' hpb
    have e4 : vput vh' pb (.lst []) pb = some (.lst []) := vput_same
    generalize vput vh' pb (.lst []) = vh1 at *
    rw [asSq_of e3']
    have hll := lay_le v (Nat.le_of_lt hpl)
    refine ForB.ofk (lay W pre.length) tupI rfl (fun pre2 Γ vh' => SubH vh vh' ∧ ∃ b c, Γ = [some (WU W), some (.ref pa), some (.int (pre.length : Nat)), some (.ref pb), b, c] ∧ vh' pa = some (.lst ((lay W pre.length).map tupI)) ∧ vh' pb = some (.lst ((pre2.flatMap (kidsR W)).map tupI)))
      (fun l Γ' vh' ⟨_, _, _, _, e5, _⟩ => asSq_of e5) ⟨s1, _, _, rfl, e3', e4⟩ (fun Γ' vh2 ⟨s2, b2, c2, hΓ, e5, e6⟩ => ?_) fun pre2 s suf2 Γ' vh2 e7 ⟨s2, b2, c2, hΓ, e5, e6⟩ => ?_
    · subst hΓ
      simp [ltV, leV, gtV, geV, sumV, maxV, minV, allV, anyV, sortV, sNext, sSeq, sNever, sBreak, sDrop, sRet, sRetN, sIf, gN, gNl, gCn, gTp, gSb, sAsg, sPar, vVar, vC, vNil, vCons, vTup, vLst, v2, addV, intsV, ints0V, mulV, vNeg, eqV', neV', inV', isV, VL.isNon, vTest, vChain, vAnd, vOr, vNot, vAndV, vOrV, vNotV, vIf, ixV, vNo, vPart, vSl, sliceV, vLc_eq, vDc_eq, sFor_eq, sWhile_eq, iSq, iRg1, iRg2, iEn, iZp, vCB, lenV, listV, tupleV, intV1, absV1, ofInts, ofBls, two, vIsi, vM, vM0, appendV, extendV, popV, popAtV, vIndex, vDnew, vCall, sRaise, vYes, vRev, getV, startV, wipeV]
      refine ⟨s2, hpb', ?_⟩
      rw [e6]
      simp [lay]
    · subst hΓ
      have hmem : s ∈ lay W pre.length := by rw [e7]; simp
      obtain ⟨hs, hsl⟩ := lay_pm v _ (Nat.le_of_lt hpl) s hmem
      have h9 := flat_len (l := pre2) (f := kidsR W) (k := 8) fun x hx => by
        have := lay_pm v _ (Nat.le_of_lt hpl) x (by rw [e7]; simp [hx])
        exact kidsR_len v (by omega)
      have h10 : pre2.length ≤ 109601 := by
        have := congrArg List.length e7
        simp at this
        omega
      rw [List.length_flatMap] at h9
      simp [ltV, leV, gtV, geV, sumV, maxV, minV, allV, anyV, sortV, sNext, sSeq, sNever, sBreak, sDrop, sRet, sRetN, sIf, gN, gNl, gCn, gTp, gSb, sAsg, sPar, vVar, vC, vNil, vCons, vTup, vLst, v2, addV, intsV, ints0V, mulV, vNeg, eqV', neV', inV', isV, VL.isNon, vTest, vChain, vAnd, vOr, vNot, vAndV, vOrV, vNotV, vIf, ixV, vNo, vPart, vSl, sliceV, vLc_eq, vDc_eq, sFor_eq, sWhile_eq, iSq, iRg1, iRg2, iEn, iZp, vCB, lenV, listV, tupleV, intV1, absV1, ofInts, ofBls, two, vIsi, vM, vM0, appendV, extendV, popV, popAtV, vIndex, vDnew, vCall, sRaise, vYes, vRev, getV, startV, wipeV, tupI, okDs_ints, okD, inU_ints, isSqF]
      by_cases hm : (pre.length : Int) ∈ s
      · have hk : kidsR W s = [s ++ [(s.idxOf (pre.length : Int) : Int)]] := by unfold kidsR; rw [hsl, if_pos hm]
        simp [hm, idxU_ints hm, asL_of e6, ownL_of e6]
        refine ⟨by omega, by omega, by omega, s2.put hpb', ?_, ?_⟩
        · rw [vput_ne hne]; exact e5
        · rw [vput_same]; simp [hk, tupI]
      · have hk : kidsR W s = (latR W s).map fun o => s ++ [o] := by unfold kidsR; rw [hsl, if_neg hm]
        simp [hm, asL_of e6, ownL_of e6]
        refine ⟨b62 (by omega) (by omega), b62 (by omega) (by omega), ?_⟩
        rw [show W.length - pre.length = ((W.length : Int) - (pre.length : Int)).toNat from by omega, rngU_eq]
        refine LcB.subm (rng pre.length W.length) U.int (fun o => if (!decide (o ∈ s) && (decide (o = (pre.length : Int)) || decide (o ∈ wAt W pre.length))) = true then some (tupI (s ++ [o])) else none) rfl (fun _ _ => trivial) (by rw [rng_len]; omega) (fun vh3 s3 p hp3 => ?_) fun o ho vh3 s3 K hK => ?_
        · rw [fm_if]
          have hkk : ((rng pre.length W.length).filter fun o => !decide (o ∈ s) && (decide (o = (pre.length : Int)) || decide (o ∈ wAt W pre.length))).map (fun x => tupI (s ++ [x])) = (kidsR W s).map tupI := by
            rw [hk, List.map_map]
            unfold latR
            rw [hsl]
            rfl
          rw [hkk]
          have e6a := putO (c := .lst ((kidsR W s).map tupI)) (s3 _ _ e6) hp3
          have e5a := putO (c := .lst ((kidsR W s).map tupI)) (s3 _ _ e5) hp3
          have hkl : (kidsR W s).length ≤ 8 := kidsR_len v (by omega)
          simp only [ownL_of e6a, ownL_new]
          refine ⟨by simp only [List.length_map]; rw [List.length_flatMap]; omega, ((s2.trans s3).put' hp3).put hpb', ?_, ?_⟩
          · rw [vput_ne hne]; exact e5a
          · rw [vput_same]
        · have ho := mem_rng.1 ho
          have hK := hK _ s3
          have hz2 : s.length + 1 ≤ sizeLine := by omega
          by_cases c1 : o ∈ s
          · simp [ltV, leV, gtV, geV, sumV, maxV, minV, allV, anyV, sortV, sNext, sSeq, sNever, sBreak, sDrop, sRet, sRetN, sIf, gN, gNl, gCn, gTp, gSb, sAsg, sPar, vVar, vC, vNil, vCons, vTup, vLst, v2, addV, intsV, ints0V, mulV, vNeg, eqV', neV', inV', isV, VL.isNon, vTest, vChain, vAnd, vOr, vNot, vAndV, vOrV, vNotV, vIf, ixV, vNo, vPart, vSl, sliceV, vLc_eq, vDc_eq, sFor_eq, sWhile_eq, iSq, iRg1, iRg2, iEn, iZp, vCB, lenV, listV, tupleV, intV1, absV1, ofInts, ofBls, two, vIsi, vM, vM0, appendV, extendV, popV, popAtV, vIndex, vDnew, vCall, sRaise, vYes, vRev, getV, startV, wipeV, okDs_ints, okD, inU_ints, c1] at hK ⊢
            exact hK
          · by_cases c2 : o = (pre.length : Int)
            · subst c2
              simp [ltV, leV, gtV, geV, sumV, maxV, minV, allV, anyV, sortV, sNext, sSeq, sNever, sBreak, sDrop, sRet, sRetN, sIf, gN, gNl, gCn, gTp, gSb, sAsg, sPar, vVar, vC, vNil, vCons, vTup, vLst, v2, addV, intsV, ints0V, mulV, vNeg, eqV', neV', inV', isV, VL.isNon, vTest, vChain, vAnd, vOr, vNot, vAndV, vOrV, vNotV, vIf, ixV, vNo, vPart, vSl, sliceV, vLc_eq, vDc_eq, sFor_eq, sWhile_eq, iSq, iRg1, iRg2, iEn, iZp, vCB, lenV, listV, tupleV, intV1, absV1, ofInts, ofBls, two, vIsi, vM, vM0, appendV, extendV, popV, popAtV, vIndex, vDnew, vCall, sRaise, vYes, vRev, getV, startV, wipeV, okDs_ints, okD, inU_ints, c1, tupI] at hK ⊢
              exact ⟨by omega, hz2, hK⟩
            · have hat := at_W (W := W) (i := (pre.length : Int)) (by omega) (by omega)
              by_cases c3 : o ∈ wAt W pre.length
              · simp [ltV, leV, gtV, geV, sumV, maxV, minV, allV, anyV, sortV, sNext, sSeq, sNever, sBreak, sDrop, sRet, sRetN, sIf, gN, gNl, gCn, gTp, gSb, sAsg, sPar, vVar, vC, vNil, vCons, vTup, vLst, v2, addV, intsV, ints0V, mulV, vNeg, eqV', neV', inV', isV, VL.isNon, vTest, vChain, vAnd, vOr, vNot, vAndV, vOrV, vNotV, vIf, ixV, vNo, vPart, vSl, sliceV, vLc_eq, vDc_eq, sFor_eq, sWhile_eq, iSq, iRg1, iRg2, iEn, iZp, vCB, lenV, listV, tupleV, intV1, absV1, ofInts, ofBls, two, vIsi, vM, vM0, appendV, extendV, popV, popAtV, vIndex, vDnew, vCall, sRaise, vYes, vRev, getV, startV, wipeV, okDs_ints, okD, inU_ints, c1, c2, c3, hat, tupI] at hK ⊢
                exact ⟨by omega, hz2, hK⟩
              · simp [ltV, leV, gtV, geV, sumV, maxV, minV, allV, anyV, sortV, sNext, sSeq, sNever, sBreak, sDrop, sRet, sRetN, sIf, gN, gNl, gCn, gTp, gSb, sAsg, sPar, vVar, vC, vNil, vCons, vTup, vLst, v2, addV, intsV, ints0V, mulV, vNeg, eqV', neV', inV', isV, VL.isNon, vTest, vChain, vAnd, vOr, vNot, vAndV, vOrV, vNotV, vIf, ixV, vNo, vPart, vSl, sliceV, vLc_eq, vDc_eq, sFor_eq, sWhile_eq, iSq, iRg1, iRg2, iEn, iZp, vCB, lenV, listV, tupleV, intV1, absV1, ofInts, ofBls, two, vIsi, vM, vM0, appendV, extendV, popV, popAtV, vIndex, vDnew, vCall, sRaise, vYes, vRev, getV, startV, wipeV, okDs_ints, okD, inU_ints, c1, c2, c3, hat, tupI] at hK ⊢
                exact hK
end K75

-- part B13
set_option Elab.async false
set_option linter.all false
set_option maxRecDepth 100000
set_option maxHeartbeats 1000000
/-! Plain laws, part 13: _law_steady. -/
namespace K75
open PySem PySem.Spec PyProof.Rows L2 VL LamX
theorem mem_blkL {W : List (List Int)} {m x : List Int} : x ∈ blkL W m ↔ ∃ i o, x = [i, o] ∧ 0 ≤ i ∧ i < W.length ∧ o ∈ wAt W i ∧ i < o ∧ wbk W m i o = true := by
  unfold blkL
  rw [List.mem_filter, mem_sortL, mem_mpL]
  constructor
  · rintro ⟨⟨i, o, rfl, a, b, c, d⟩, e⟩
    exact ⟨i, o, rfl, a, b, c, d, e⟩
  · rintro ⟨i, o, rfl, a, b, c, d, e⟩
    exact ⟨⟨i, o, rfl, a, b, c, d⟩, e⟩
theorem mem_lblk {W : List (List Int)} {m x : List Int} (v : VW W) : x ∈ lblk W m ↔ ∃ i o, x = [i, o] ∧ 0 ≤ i ∧ i < W.length ∧ o ∈ wAt W i ∧ i < o ∧ wbk W m i o = true := by
  simp only [lblk, lbAt, List.mem_flatMap, List.mem_map, List.mem_filter, mem_rng, Bool.and_eq_true, decide_eq_true_eq]
  constructor
  · rintro ⟨i, ⟨a, b⟩, o, ⟨⟨c, d⟩, e, f⟩, rfl⟩
    exact ⟨i, o, rfl, a, b, e, by omega, f⟩
  · rintro ⟨i, o, rfl, a, b, c, d, e⟩
    exact ⟨i, ⟨a, b⟩, o, ⟨⟨by omega, (v.rg i a b o c).2.1⟩, c, e⟩, rfl⟩
theorem lblk_nil {W : List (List Int)} {m : List Int} (v : VW W) : lblk W m = [] ↔ blkL W m = [] := by
  rw [List.eq_nil_iff_forall_not_mem, List.eq_nil_iff_forall_not_mem]
  exact forall_congr' fun x => not_congr ((mem_lblk v).trans mem_blkL.symm)
theorem b_lsteady {S : SS} : BodyV F_all_steady_by 2 1 (t__law_steady S F_all_mates_by F_lblocks) := by
  rintro us vh R Z hl ⟨W, rfl, v, r⟩
  clear hl
  have hz := sz1m
  have hl := all_len v
  simp [t__law_steady, ltV, leV, gtV, geV, sumV, maxV, minV, allV, anyV, sortV, sNext, sSeq, sNever, sBreak, sDrop, sRet, sRetN, sIf, gN, gNl, gCn, gTp, gSb, sAsg, sPar, vVar, vC, vNil, vCons, vTup, vLst, v2, addV, intsV, ints0V, mulV, vNeg, eqV', neV', inV', isV, VL.isNon, vTest, vChain, vAnd, vOr, vNot, vAndV, vOrV, vNotV, vIf, ixV, vNo, vPart, vSl, sliceV, vLc_eq, vDc_eq, sFor_eq, sWhile_eq, iSq, iRg1, iRg2, iEn, iZp, vCB, lenV, listV, tupleV, intV1, absV1, ofInts, ofBls, two, vIsi, vM, vM0, appendV, extendV, popV, popAtV, vIndex, vDnew, vCall, sRaise, vYes, vRev, getV, startV, wipeV]
  refine f_all_mates v fun p hp => ?_
  have hs : SubH vh (vput vh p (.lst ((allL W).map tupI))) := (SubH.refl _).put hp
  have e : vput vh p (.lst ((allL W).map tupI)) p = some (.lst ((allL W).map tupI)) := vput_same
  generalize vput vh p (.lst ((allL W).map tupI)) = vh1 at *
  rw [asSq_of e]
  refine LcB.subm (allL W) tupI (fun m => if okM W m = true then some (tupI m) else none) rfl (fun vh' s => asSq_of (s _ _ e)) (by omega) (fun vh2 s2 q hq => ?_) fun m hm vh2 s2 K hK => ?_
  · rw [fm_if]
    exact RD.of (r q ((hs.trans s2).no hq)) (hs.trans s2).put2
  · simp [ltV, leV, gtV, geV, sumV, maxV, minV, allV, anyV, sortV, sNext, sSeq, sNever, sBreak, sDrop, sRet, sRetN, sIf, gN, gNl, gCn, gTp, gSb, sAsg, sPar, vVar, vC, vNil, vCons, vTup, vLst, v2, addV, intsV, ints0V, mulV, vNeg, eqV', neV', inV', isV, VL.isNon, vTest, vChain, vAnd, vOr, vNot, vAndV, vOrV, vNotV, vIf, ixV, vNo, vPart, vSl, sliceV, vLc_eq, vDc_eq, sFor_eq, sWhile_eq, iSq, iRg1, iRg2, iEn, iZp, vCB, lenV, listV, tupleV, intV1, absV1, ofInts, ofBls, two, vIsi, vM, vM0, appendV, extendV, popV, popAtV, vIndex, vDnew, vCall, sRaise, vYes, vRev, getV, startV, wipeV]
    refine ⟨W, m, rfl, v, all_gm v hm, fun q1 hq1 => ?_⟩
    intro q2 hq2
    have e1 := putO (c := .lst []) (vput_same (vh := vh2) (a := q1) (c := .lst ((lblk W m).map tupI))) hq2
    refine eqR_lists (asL_of e1) asL_new (okDs_tups _) rfl ?_
    rw [eqUs_nil]
    have hK := hK _ ((s2.put' (c := .lst ((lblk W m).map tupI)) hq1).put' (c := .lst []) hq2)
    by_cases c : blkL W m = []
    · have c' := (lblk_nil v).2 c
      simp [okM, c, c'] at hK ⊢; exact hK
    · have c' : ¬ lblk W m = [] := fun z => c ((lblk_nil v).1 z)
      simp [okM, c, c'] at hK ⊢; exact hK
end K75

-- part B14
set_option Elab.async false
set_option linter.all false
set_option maxRecDepth 100000
set_option maxHeartbeats 1000000
/-! Plain laws, part 14: _law_mixed. -/
namespace K75
open PySem PySem.Spec PyProof.Rows L2 VL LamX
theorem subA {vh vh' : VH} {a : Addr} {c d : Cel} (s : SubH (vput vh a c) vh') : SubH (vput vh a d) (vput vh' a d) := fun x cc h => by
  by_cases e : x = a
  · subst e; rw [vput_same] at h ⊢; exact h
  · rw [vput_ne e] at h ⊢
    exact s x cc (by rw [vput_ne e]; exact h)
def F_mixed : FV := fun us vh R _ => ∃ a b ns xs, us = [.ref a, .ref b] ∧ vh a = some (tpU ns) ∧ vh b = some (tpU xs) ∧ xs.length ≤ 1000 ∧ ∀ (ys ns' : List Int), ys.Perm xs → newL (vput vh a (tpU ns')) (ys.map U.int) R
theorem er_perm : ∀ {l : List Int} {k : Nat} {y : Int}, l[k]? = some y → (y :: l.eraseIdx k).Perm l
  | x :: l, 0, y, h => by
    cases (show some x = some y by simpa using h)
    exact .refl _
  | x :: l, k + 1, y, h => by
    have := er_perm (l := l) (k := k) (y := y) (by simpa using h)
    rw [List.eraseIdx_cons_succ]
    exact (List.Perm.swap x y _).trans (this.cons x)
theorem er_map {α β : Type} (f : α → β) : ∀ (l : List α) (k : Nat), (l.map f).eraseIdx k = (l.eraseIdx k).map f
  | [], _ => rfl
  | _ :: _, 0 => rfl
  | x :: l, k + 1 => by simp [List.eraseIdx_cons_succ, er_map f l k]
theorem b_mixed {S : SS} : BodyV F_mixed 4 2 (t__law_mixed S F_take) := by
  rintro us vh R Z hl ⟨a, b, ns, xs, rfl, ha, hb, hx, r⟩
  clear hl
  have hz := sz1m
  simp [t__law_mixed, ltV, leV, gtV, geV, sumV, maxV, minV, allV, anyV, sortV, sNext, sSeq, sNever, sBreak, sDrop, sRet, sRetN, sIf, gN, gNl, gCn, gTp, gSb, sAsg, sPar, vVar, vC, vNil, vCons, vTup, vLst, v2, addV, intsV, ints0V, mulV, vNeg, eqV', neV', inV', isV, VL.isNon, vTest, vChain, vAnd, vOr, vNot, vAndV, vOrV, vNotV, vIf, ixV, vNo, vPart, vSl, sliceV, vLc_eq, vDc_eq, sFor_eq, sWhile_eq, iSq, iRg1, iRg2, iEn, iZp, vCB, lenV, listV, tupleV, intV1, absV1, ofInts, ofBls, two, vIsi, vM, vM0, appendV, extendV, popV, popAtV, vIndex, vDnew, vCall, sRaise, vYes, vRev, getV, startV, wipeV, asSq_of hb]
  intro pr hpr pf hpf
  have hne : pf ≠ pr := fun z => by subst z; rw [vput_same] at hpf; cases hpf
  have hpf' : vh pf = none := by rw [vput_ne hne] at hpf; exact hpf
  have har : a ≠ pr := fun z => by subst z; rw [ha] at hpr; cases hpr
  have haf : a ≠ pf := fun z => by subst z; rw [ha] at hpf'; cases hpf'
  have hpa : ∀ ns', (vput vh a (tpU ns')) pr = none := fun ns' => by rw [vput_ne (Ne.symm har)]; exact hpr
  have hpa2 : ∀ ns', (vput vh a (tpU ns')) pf = none := fun ns' => by rw [vput_ne (Ne.symm haf)]; exact hpf'
  refine ⟨fun k Γ vh' => ∃ ns' rest found, (∃ u v, Γ = [u, v, some (.ref pr), some (.ref pf)] ∧ u = some (.ref a)) ∧ SubH (vput vh a (tpU ns')) vh' ∧ vh' pr = some (tpU rest) ∧ vh' pf = some (tpU found) ∧ (found ++ rest).Perm xs ∧ rest.length = k, ⟨_, ns, xs, [], ⟨_, _, rfl, rfl⟩, ?_, ?_, vput_same, by simp, rfl⟩, ?_⟩
  · rw [vput_id ha]; exact ((SubH.refl _).put hpr).put hpf'
  · rw [vput_ne (Ne.symm hne), vput_same]
  rintro k Γ vh' ⟨ns', rest, found, ⟨u, v, rfl, rfl⟩, s1, e1, e2, pm, hk⟩
  simp [ltV, leV, gtV, geV, sumV, maxV, minV, allV, anyV, sortV, sNext, sSeq, sNever, sBreak, sDrop, sRet, sRetN, sIf, gN, gNl, gCn, gTp, gSb, sAsg, sPar, vVar, vC, vNil, vCons, vTup, vLst, v2, addV, intsV, ints0V, mulV, vNeg, eqV', neV', inV', isV, VL.isNon, vTest, vChain, vAnd, vOr, vNot, vAndV, vOrV, vNotV, vIf, ixV, vNo, vPart, vSl, sliceV, vLc_eq, vDc_eq, sFor_eq, sWhile_eq, iSq, iRg1, iRg2, iEn, iZp, vCB, lenV, listV, tupleV, intV1, absV1, ofInts, ofBls, two, vIsi, vM, vM0, appendV, extendV, popV, popAtV, vIndex, vDnew, vCall, sRaise, vYes, vRev, getV, startV, wipeV]
  intro q hq
  have e1' := putO (c := .lst []) e1 hq
  have e2' := putO (c := .lst []) e2 hq
  have s2 := s1.put' (c := .lst []) hq
  refine eqR_lists (asL_of e1') asL_new (okDs_ints _ _) rfl ?_
  rw [eqUs_nil]
  generalize vput vh' q (.lst []) = vh1 at *
  have hlen : found.length + rest.length = xs.length := by have := pm.length_eq; simpa using this
  by_cases c : rest = []
  · subst c
    simp
    simp at pm
    have := r found ns' pm pf (hpa2 ns')
    refine ⟨_, ?_, this⟩
    intro x cc hx
    by_cases e : x = pf
    · subst e; rw [vput_same] at hx; cases hx; exact e2'
    · rw [vput_ne e] at hx; exact s2 _ _ hx
  · have hpos : 0 < rest.length := List.length_pos_iff.2 c
    have ea : vh1 a = some (tpU ns') := s2 _ _ vput_same
    simp [c, asL_of e2', asL_of e1', asSq_of e1']
    refine f_take ea (by omega) fun t ns2 h0 h1 => ?_
    have hlt : t.toNat < rest.length := by omega
    obtain ⟨y, hy⟩ : ∃ y, rest[t.toNat]? = some y := ⟨_, List.getElem?_eq_getElem hlt⟩
    have s3 : SubH (vput vh a (tpU ns2)) (vput vh1 a (tpU ns2)) := subA s2
    have e1a : vput vh1 a (tpU ns2) pr = some (tpU rest) := by rw [vput_ne (Ne.symm har)]; exact e1'
    have e2a : vput vh1 a (tpU ns2) pf = some (tpU found) := by rw [vput_ne (Ne.symm haf)]; exact e2'
    generalize vput vh1 a (tpU ns2) = vh3 at *
    have e2b : vput vh3 pr (tpU (rest.eraseIdx t.toNat)) pf = some (tpU found) := by rw [vput_ne hne]; exact e2a
    have hix : ixN (rest.map U.int).length t = some t.toNat := by unfold ixN; simp [h0]; omega
    have hyy : (rest.map U.int)[t.toNat]? = some (U.int y) := by rw [List.getElem?_map, hy]; rfl
    simp only [ownL_of e1a, hix, hyy, er_map]
    refine ⟨b62 (by omega) (by omega), ?_⟩
    simp only [ownL_of e2b]
    refine ⟨by simp only [List.length_map]; omega, rest.length - 1, by omega, ⟨ns2, (s3.put (hpa ns2)).put (hpa2 ns2)⟩, rest.eraseIdx t.toNat, ?_, found ++ [y], ?_, ?_, ?_⟩
    · rw [vput_ne (Ne.symm hne), vput_same]
    · rw [vput_same]; simp
    · refine List.Perm.trans ?_ pm
      rw [List.append_assoc]
      exact List.Perm.append_left _ (er_perm hy)
    · rw [List.length_eraseIdx, if_pos hlt]
end K75

-- part B15
set_option Elab.async false
set_option linter.all false
set_option maxRecDepth 100000
set_option maxHeartbeats 1000000
/-! Plain laws, part 15: _law_many. -/
namespace K75
open PySem PySem.Spec PyProof.Rows L2 VL LamX
def rowA (h p : Int) : List Int := (rng 0 h).map fun s => h + Int.fmod (p + s) h
def rowB (h p : Int) : List Int := (rng 0 h).map fun s => Int.fmod (p + 1 + s) h
def manyW (h : Int) : List (List Int) := (rng 0 h).map (rowA h) ++ (rng 0 h).map (rowB h)
def F_many : FV := fun us vh R _ => ∃ a ns, us = [.ref a] ∧ vh a = some (tpU ns) ∧ ∀ h ns', h = 2 ∨ h = 3 ∨ h = 4 → R (WU (manyW h)) (vput vh a (tpU ns'))
theorem rngUh {h : Int} : rngU 0 h.toNat = (rng 0 h).map U.int := by simp [rngU, rng, List.map_map, Function.comp_def]
theorem b_many {S : SS} : BodyV F_many 6 1 (t__law_many S F_take) := by
  rintro us vh R Z hl ⟨a, ns, rfl, ha, r⟩
  clear hl
  have hz := sz1m
  simp [t__law_many, ltV, leV, gtV, geV, sumV, maxV, minV, allV, anyV, sortV, sNext, sSeq, sNever, sBreak, sDrop, sRet, sRetN, sIf, gN, gNl, gCn, gTp, gSb, sAsg, sPar, vVar, vC, vNil, vCons, vTup, vLst, v2, addV, intsV, ints0V, mulV, vNeg, eqV', neV', inV', isV, VL.isNon, vTest, vChain, vAnd, vOr, vNot, vAndV, vOrV, vNotV, vIf, ixV, vNo, vPart, vSl, sliceV, vLc_eq, vDc_eq, sFor_eq, sWhile_eq, iSq, iRg1, iRg2, iEn, iZp, vCB, lenV, listV, tupleV, intV1, absV1, ofInts, ofBls, two, vIsi, vM, vM0, appendV, extendV, popV, popAtV, vIndex, vDnew, vCall, sRaise, vYes, vRev, getV, startV, wipeV]
  refine f_take ha (by omega) fun t ns' h0 h1 => ?_
  have r := r (2 + t) ns' (by omega)
  have hh : 2 ≤ 2 + t ∧ 2 + t ≤ 4 := by omega
  generalize vput vh a (tpU ns') = v0 at *
  simp [ltV, leV, gtV, geV, sumV, maxV, minV, allV, anyV, sortV, sNext, sSeq, sNever, sBreak, sDrop, sRet, sRetN, sIf, gN, gNl, gCn, gTp, gSb, sAsg, sPar, vVar, vC, vNil, vCons, vTup, vLst, v2, addV, intsV, ints0V, mulV, vNeg, eqV', neV', inV', isV, VL.isNon, vTest, vChain, vAnd, vOr, vNot, vAndV, vOrV, vNotV, vIf, ixV, vNo, vPart, vSl, sliceV, vLc_eq, vDc_eq, sFor_eq, sWhile_eq, iSq, iRg1, iRg2, iEn, iZp, vCB, lenV, listV, tupleV, intV1, absV1, ofInts, ofBls, two, vIsi, vM, vM0, appendV, extendV, popV, popAtV, vIndex, vDnew, vCall, sRaise, vYes, vRev, getV, startV, wipeV]
  generalize 2 + t = h at *
  refine ⟨b62 (by omega) (by omega), ?_⟩
  rw [rngUh]
  refine LcB.subm (rng 0 h) U.int (fun p => some (tupI (rowA h p))) rfl (fun _ _ => trivial) (by rw [rng_len]; omega) (fun v1 s1 q hq => ?_) fun p hp v1 s1 K hK => ?_
  · rw [fm_some]
    simp only [asL_new]
    have s2 : SubH v0 (vput v1 q (.lst ((rng 0 h).map fun p => tupI (rowA h p)))) := s1.put' hq
    generalize vput v1 q (.lst ((rng 0 h).map fun p => tupI (rowA h p))) = w2 at *
    simp [ltV, leV, gtV, geV, sumV, maxV, minV, allV, anyV, sortV, sNext, sSeq, sNever, sBreak, sDrop, sRet, sRetN, sIf, gN, gNl, gCn, gTp, gSb, sAsg, sPar, vVar, vC, vNil, vCons, vTup, vLst, v2, addV, intsV, ints0V, mulV, vNeg, eqV', neV', inV', isV, VL.isNon, vTest, vChain, vAnd, vOr, vNot, vAndV, vOrV, vNotV, vIf, ixV, vNo, vPart, vSl, sliceV, vLc_eq, vDc_eq, sFor_eq, sWhile_eq, iSq, iRg1, iRg2, iEn, iZp, vCB, lenV, listV, tupleV, intV1, absV1, ofInts, ofBls, two, vIsi, vM, vM0, appendV, extendV, popV, popAtV, vIndex, vDnew, vCall, sRaise, vYes, vRev, getV, startV, wipeV]
    refine ⟨b62 (by omega) (by omega), ?_⟩
    try rw [rngUh]
    refine LcB.subm (rng 0 h) U.int (fun p => some (tupI (rowB h p))) rfl (fun _ _ => trivial) (by rw [rng_len]; omega) (fun v3 s3 q3 hq3 => ?_) fun p hp v3 s3 K hK => ?_
    · rw [fm_some]
      simp
      refine ⟨by simp [rng_len]; omega, ?_⟩
      have e : WU (manyW h) = .tup ((rng 0 h).map (fun p => tupI (rowA h p)) ++ (rng 0 h).map (fun p => tupI (rowB h p))) := by simp [manyW, List.map_map, Function.comp_def]
      rw [e] at r
      exact RD.of r ((s2.trans s3).put' hq3)
    · have hK := hK
      simp [ltV, leV, gtV, geV, sumV, maxV, minV, allV, anyV, sortV, sNext, sSeq, sNever, sBreak, sDrop, sRet, sRetN, sIf, gN, gNl, gCn, gTp, gSb, sAsg, sPar, vVar, vC, vNil, vCons, vTup, vLst, v2, addV, intsV, ints0V, mulV, vNeg, eqV', neV', inV', isV, VL.isNon, vTest, vChain, vAnd, vOr, vNot, vAndV, vOrV, vNotV, vIf, ixV, vNo, vPart, vSl, sliceV, vLc_eq, vDc_eq, sFor_eq, sWhile_eq, iSq, iRg1, iRg2, iEn, iZp, vCB, lenV, listV, tupleV, intV1, absV1, ofInts, ofBls, two, vIsi, vM, vM0, appendV, extendV, popV, popAtV, vIndex, vDnew, vCall, sRaise, vYes, vRev, getV, startV, wipeV]
      refine ⟨b62 (by omega) (by omega), ?_⟩
      try rw [rngUh]
      refine LcB.subm (rng 0 h) U.int (fun s => some (.int (Int.fmod (p + 1 + s) h))) rfl (fun _ _ => trivial) (by rw [rng_len]; omega) (fun v4 s4 q4 hq4 => ?_) fun s hs v4 s4 K' hK' => ?_
      · rw [fm_some]
        simp
        have := hK _ ((s3.trans s4).put' (c := .lst ((rng 0 h).map fun s => U.int (Int.fmod (p + 1 + s) h))) hq4)
        simpa [tupI, rowB, List.map_map, Function.comp_def] using this
      · simp [ltV, leV, gtV, geV, sumV, maxV, minV, allV, anyV, sortV, sNext, sSeq, sNever, sBreak, sDrop, sRet, sRetN, sIf, gN, gNl, gCn, gTp, gSb, sAsg, sPar, vVar, vC, vNil, vCons, vTup, vLst, v2, addV, intsV, ints0V, mulV, vNeg, eqV', neV', inV', isV, VL.isNon, vTest, vChain, vAnd, vOr, vNot, vAndV, vOrV, vNotV, vIf, ixV, vNo, vPart, vSl, sliceV, vLc_eq, vDc_eq, sFor_eq, sWhile_eq, iSq, iRg1, iRg2, iEn, iZp, vCB, lenV, listV, tupleV, intV1, absV1, ofInts, ofBls, two, vIsi, vM, vM0, appendV, extendV, popV, popAtV, vIndex, vDnew, vCall, sRaise, vYes, vRev, getV, startV, wipeV]
        exact ⟨by omega, hK' _ s4⟩
  · simp [ltV, leV, gtV, geV, sumV, maxV, minV, allV, anyV, sortV, sNext, sSeq, sNever, sBreak, sDrop, sRet, sRetN, sIf, gN, gNl, gCn, gTp, gSb, sAsg, sPar, vVar, vC, vNil, vCons, vTup, vLst, v2, addV, intsV, ints0V, mulV, vNeg, eqV', neV', inV', isV, VL.isNon, vTest, vChain, vAnd, vOr, vNot, vAndV, vOrV, vNotV, vIf, ixV, vNo, vPart, vSl, sliceV, vLc_eq, vDc_eq, sFor_eq, sWhile_eq, iSq, iRg1, iRg2, iEn, iZp, vCB, lenV, listV, tupleV, intV1, absV1, ofInts, ofBls, two, vIsi, vM, vM0, appendV, extendV, popV, popAtV, vIndex, vDnew, vCall, sRaise, vYes, vRev, getV, startV, wipeV]
    refine ⟨b62 (by omega) (by omega), ?_⟩
    try rw [rngUh]
    refine LcB.subm (rng 0 h) U.int (fun s => some (.int (h + Int.fmod (p + s) h))) rfl (fun _ _ => trivial) (by rw [rng_len]; omega) (fun v4 s4 q4 hq4 => ?_) fun s hs v4 s4 K' hK' => ?_
    · rw [fm_some]
      simp
      have := hK _ ((s1.trans s4).put' (c := .lst ((rng 0 h).map fun s => U.int (h + Int.fmod (p + s) h))) hq4)
      simpa [tupI, rowA, List.map_map, Function.comp_def] using this
    · simp [ltV, leV, gtV, geV, sumV, maxV, minV, allV, anyV, sortV, sNext, sSeq, sNever, sBreak, sDrop, sRet, sRetN, sIf, gN, gNl, gCn, gTp, gSb, sAsg, sPar, vVar, vC, vNil, vCons, vTup, vLst, v2, addV, intsV, ints0V, mulV, vNeg, eqV', neV', inV', isV, VL.isNon, vTest, vChain, vAnd, vOr, vNot, vAndV, vOrV, vNotV, vIf, ixV, vNo, vPart, vSl, sliceV, vLc_eq, vDc_eq, sFor_eq, sWhile_eq, iSq, iRg1, iRg2, iEn, iZp, vCB, lenV, listV, tupleV, intV1, absV1, ofInts, ofBls, two, vIsi, vM, vM0, appendV, extendV, popV, popAtV, vIndex, vDnew, vCall, sRaise, vYes, vRev, getV, startV, wipeV]
      exact ⟨by omega, hK' _ s4⟩
end K75

-- part B16
set_option Elab.async false
set_option linter.all false
set_option maxRecDepth 100000
set_option maxHeartbeats 1000000
/-! Plain laws, part 16: what is computed. -/
namespace K75
open PySem PySem.Spec PyProof.Rows L2 VL LamX
def vwB (W : List (List Int)) : Bool := decide (W.length ≤ 8) && (rng 0 W.length).all fun i => decide (wAt W i).Nodup && (wAt W i).all fun j => decide (0 ≤ j) && (decide (j < W.length) && (decide (j ≠ i) && decide (i ∈ wAt W j)))
theorem vw_by {W : List (List Int)} (h : vwB W = true) : VW W := by
  simp only [vwB, Bool.and_eq_true, decide_eq_true_eq, List.all_eq_true, mem_rng] at h
  obtain ⟨h1, h2⟩ := h
  exact ⟨h1, fun i a b => (h2 i ⟨a, b⟩).1, fun i a b j hj => by
    have := (h2 i ⟨a, b⟩).2 j hj
    exact ⟨this.1, this.2.1, this.2.2.1⟩, fun i a b j hj => ((h2 i ⟨a, b⟩).2 j hj).2.2.2⟩
theorem vw_many {h : Int} (e : h = 2 ∨ h = 3 ∨ h = 4) : VW (manyW h) := by
  rcases e with rfl | rfl | rfl
  · exact vw_by (by decide +kernel)
  · exact vw_by (by decide +kernel)
  · exact vw_by (by decide +kernel)
theorem many_steady {h : Int} (e : h = 2 ∨ h = 3 ∨ h = 4) : ((manyW h).length : Int) / 2 ≤ (stL (manyW h)).length := by
  rcases e with rfl | rfl | rfl
  · decide +kernel
  · decide +kernel
  · decide +kernel
def three : List (List Int) := [[1, 2, 3], [2, 0, 3], [0, 1, 3], [0, 1, 2]]
def ring3 : List (List Int) := [[1, 2], [2, 0], [0, 1]]
def pair3 : List (List Int) := [[], [2], [1]]
theorem vw_three : VW three := vw_by (by decide +kernel)
theorem vw_ring3 : VW ring3 := vw_by (by decide +kernel)
theorem vw_pair3 : VW pair3 := vw_by (by decide +kernel)
theorem vw_nil : VW [] := vw_by (by decide +kernel)
theorem st_three : stL three = [] := by decide +kernel
theorem st_nil : stL [] = [[]] := by decide +kernel
theorem st_ring3 : stL ring3 = [] := by decide +kernel
theorem st_pair3 : stL pair3 ≠ [] ∧ al ((stL pair3).headD []) = [0] := by decide +kernel
end K75

-- part B17
set_option Elab.async false
set_option linter.all false
set_option maxRecDepth 100000
set_option maxHeartbeats 1000000
/-! Plain laws, part 17: all steady mates leave the same people alone. -/
namespace K75
open PySem PySem.Spec PyProof.Rows L2 VL LamX
/-- no pair breaks m -/
def Stdy (W : List (List Int)) (m : List Int) : Prop := ∀ i o : Int, 0 ≤ i → i < W.length → o ∈ wAt W i → ¬ (rk W i o < rk W i (iAt m i) ∧ rk W o i < rk W o (iAt m o))
theorem stdy_of {W : List (List Int)} {m : List Int} (v : VW W) (h : blkL W m = []) : Stdy W m := by
  intro i o h0 h1 ho ⟨a, b⟩
  have hr := v.rg i h0 h1 o ho
  have hn := List.eq_nil_iff_forall_not_mem.1 h
  by_cases c : i < o
  · exact hn [i, o] (mem_blkL.2 ⟨i, o, rfl, h0, h1, ho, c, by simp [wbk, a, b]⟩)
  · exact hn [o, i] (mem_blkL.2 ⟨o, i, rfl, hr.1, hr.2.1, v.sym i h0 h1 o ho, by omega, by simp [wbk, a, b]⟩)
theorem rk_self {W : List (List Int)} {i : Int} : rk W i i = (wAt W i).length := by simp [rk]
theorem rk_lt {W : List (List Int)} {i j : Int} (hj : j ∈ wAt W i) (hne : j ≠ i) : rk W i j < (wAt W i).length := by
  have := List.idxOf_lt_length_iff.2 hj
  simp [rk, hne]; omega
theorem idx_inj {l : List Int} {a b : Int} (ha : a ∈ l) (hb : b ∈ l) (h : l.idxOf a = l.idxOf b) : a = b := by
  obtain ⟨_, _, e1⟩ := mem_iAt ha
  obtain ⟨_, _, e2⟩ := mem_iAt hb
  rw [← e1, ← e2, h]
theorem rk_inj {W : List (List Int)} {i a b : Int} (ha : a ≠ i → a ∈ wAt W i) (hb : b ≠ i → b ∈ wAt W i) (h : rk W i a = rk W i b) : a = b := by
  by_cases ea : a = i <;> by_cases eb : b = i
  · rw [ea, eb]
  · subst ea
    have := rk_lt (hb eb) eb
    rw [rk_self] at h
    omega
  · subst eb
    have := rk_lt (ha ea) ea
    rw [rk_self] at h
    omega
  · simp [rk, ea, eb] at h
    exact idx_inj (ha ea) (hb eb) (by omega)
/-- the people whom m suits better than m' -/
def bet (W : List (List Int)) (m m' : List Int) : List Int := (rng 0 W.length).filter fun i => decide (rk W i (iAt m i) < rk W i (iAt m' i))
theorem mem_bet {W : List (List Int)} {m m' : List Int} {i : Int} : i ∈ bet W m m' ↔ (0 ≤ i ∧ i < W.length) ∧ rk W i (iAt m i) < rk W i (iAt m' i) := by
  simp [bet, mem_rng]
theorem bet_map {W : List (List Int)} {m m' : List Int} (v : VW W) (g : GM W m) (g' : GM W m') (s' : Stdy W m') {i : Int} (h : i ∈ bet W m m') : iAt m i ∈ bet W m' m ∧ iAt m i ≠ i := by
  obtain ⟨⟨h0, h1⟩, hl⟩ := mem_bet.1 h
  have hne : iAt m i ≠ i := fun e => by
    rw [e, rk_self] at hl
    by_cases c : iAt m' i = i
    · rw [c, rk_self] at hl; omega
    · have := rk_lt (g'.ok i h0 h1 c) c; omega
  have hj := g.ok i h0 h1 hne
  have hr := g.rg i h0 h1
  have hinv := g.inv i h0 h1
  refine ⟨mem_bet.2 ⟨hr, ?_⟩, hne⟩
  have hs := s' i (iAt m i) h0 h1 hj
  rw [hinv]
  have h2 : ¬ rk W (iAt m i) i < rk W (iAt m i) (iAt m' (iAt m i)) := fun z => hs ⟨hl, z⟩
  have h3 : rk W (iAt m i) (iAt m' (iAt m i)) ≠ rk W (iAt m i) i := fun z => by
    have e := rk_inj (g'.ok _ hr.1 hr.2) (fun _ => v.sym i h0 h1 _ hj) z
    have := g'.inv _ hr.1 hr.2
    rw [e] at this
    rw [this] at hl
    omega
  omega
theorem bet_nd {W : List (List Int)} {m m' : List Int} : (bet W m m').Nodup := rng_nd.filter _
theorem map_nd {m : List Int} {W : List (List Int)} (g : GM W m) : ∀ {l : List Int}, l.Nodup → (∀ i ∈ l, 0 ≤ i ∧ i < W.length) → (l.map (iAt m)).Nodup
  | [], _, _ => by simp
  | x :: l, nd, h => by
    have nd := List.nodup_cons.1 nd
    rw [List.map_cons, List.nodup_cons]
    refine ⟨fun z => ?_, map_nd g nd.2 fun i hi => h i (by simp [hi])⟩
    obtain ⟨y, hy, e⟩ := List.mem_map.1 z
    have e1 := g.inv x (h x (by simp)).1 (h x (by simp)).2
    have e2 := g.inv y (h y (by simp [hy])).1 (h y (by simp [hy])).2
    rw [e, e1] at e2
    exact nd.1 (e2 ▸ hy)
theorem bet_le {W : List (List Int)} {m m' : List Int} (v : VW W) (g : GM W m) (g' : GM W m') (s' : Stdy W m') : (bet W m m').length ≤ (bet W m' m).length := by
  have := nd_sub (l := (bet W m m').map (iAt m)) (m := bet W m' m) (map_nd g bet_nd fun i hi => (mem_bet.1 hi).1) fun x hx => by
    obtain ⟨i, hi, rfl⟩ := List.mem_map.1 hx
    exact (bet_map v g g' s' hi).1
  simpa using this
/-- those whom m' suits better have someone in m -/
theorem bet_on {W : List (List Int)} {m m' : List Int} (v : VW W) (g : GM W m) (g' : GM W m') (s : Stdy W m) (s' : Stdy W m') {i : Int} (h : i ∈ bet W m' m) : iAt m i ≠ i := by
  have hle := bet_le v g' g s
  have hm : i ∈ (bet W m m').map (iAt m) := Classical.byContradiction fun hn => by
    have := nd_sub (l := i :: (bet W m m').map (iAt m)) (m := bet W m' m) (List.nodup_cons.2 ⟨hn, map_nd g bet_nd fun i hi => (mem_bet.1 hi).1⟩) fun x hx => by
      rcases List.mem_cons.1 hx with rfl | hx
      · exact h
      · obtain ⟨j, hj, rfl⟩ := List.mem_map.1 hx
        exact (bet_map v g g' s' hj).1
    simp at this
    omega
  obtain ⟨p, hp, rfl⟩ := List.mem_map.1 hm
  have hr := (mem_bet.1 hp).1
  rw [g.inv p hr.1 hr.2]
  exact (bet_map v g g' s' hp).2.symm
theorem alone_imp {W : List (List Int)} {m m' : List Int} (v : VW W) (g : GM W m) (g' : GM W m') (s : Stdy W m) (s' : Stdy W m') {i : Int} (h0 : 0 ≤ i) (h1 : i < W.length) (h : iAt m i = i) : iAt m' i = i := by
  have n1 : ¬ i ∈ bet W m m' := fun z => (bet_map v g g' s' z).2 h
  have n2 : ¬ i ∈ bet W m' m := fun z => bet_on v g g' s s' z h
  rw [mem_bet] at n1 n2
  have e : rk W i (iAt m i) = rk W i (iAt m' i) := by
    have a : ¬ rk W i (iAt m i) < rk W i (iAt m' i) := fun z => n1 ⟨⟨h0, h1⟩, z⟩
    have b : ¬ rk W i (iAt m' i) < rk W i (iAt m i) := fun z => n2 ⟨⟨h0, h1⟩, z⟩
    omega
  rw [← rk_inj (g.ok i h0 h1) (g'.ok i h0 h1) e, h]
theorem al_eq {W : List (List Int)} {m m' : List Int} (v : VW W) (h : m ∈ stL W) (h' : m' ∈ stL W) : al m = al m' := by
  have g := st_gm v h
  have g' := st_gm v h'
  have s := stdy_of v (of_decide_eq_true (List.mem_filter.1 h).2)
  have s' := stdy_of v (of_decide_eq_true (List.mem_filter.1 h').2)
  unfold al
  rw [g.len, g'.len]
  refine List.filter_congr fun i hi => ?_
  have hi := mem_rng.1 hi
  rw [decide_eq_decide]
  exact ⟨fun e => (alone_imp v g g' s s' hi.1 hi.2 e.symm).symm, fun e => (alone_imp v g' g s' s hi.1 hi.2 e.symm).symm⟩
end K75

-- part B18
set_option Elab.async false
set_option linter.all false
set_option maxRecDepth 100000
set_option maxHeartbeats 1000000
/-! Plain laws, part 18: the first of the least keys. -/
namespace K75
open PySem PySem.Spec PyProof.Rows L2 VL LamX
theorem listLt_lex : ∀ (x y : List Int), PySem.W.listLt x y = HT.lexLt x y
  | [], [] => rfl
  | [], _ :: _ => rfl
  | _ :: _, [] => rfl
  | a :: x, b :: y => by
    show (if a = b then PySem.W.listLt x y else decide (a < b)) = (if a = b then HT.lexLt x y else decide (a < b))
    rw [listLt_lex x y]
/-- the first place of the least -/
def firstL (c : Nat → Int) : Nat → Nat
  | 0 => 0
  | j + 1 => if c (j + 1) < c (firstL c j) then j + 1 else firstL c j
theorem first_ok (c : Nat → Int) : ∀ j, firstL c j ≤ j ∧ ∀ i ≤ j, c (firstL c j) ≤ c i ∧ (i < firstL c j → c (firstL c j) < c i)
  | 0 => ⟨Nat.le_refl _, fun i h => by
    have : i = 0 := by omega
    subst this
    exact ⟨Int.le_refl _, fun h => absurd h (by simp [firstL])⟩⟩
  | j + 1 => by
    obtain ⟨a, b⟩ := first_ok c j
    unfold firstL
    split
    · rename_i h
      refine ⟨Nat.le_refl _, fun i hi => ?_⟩
      by_cases e : i = j + 1
      · subst e; exact ⟨Int.le_refl _, fun z => absurd z (Nat.lt_irrefl _)⟩
      · have := (b i (by omega)).1
        exact ⟨by omega, fun _ => by omega⟩
    · rename_i h
      refine ⟨by omega, fun i hi => ?_⟩
      by_cases e : i = j + 1
      · subst e; exact ⟨by omega, fun z => by omega⟩
      · exact b i (by omega)
theorem best_first {ck : Nat → Int × PySem.W.Tup Int} {n : Nat} (h : ∀ i j, i < j → j ≤ n → HT.lexLt (ck j).2.items (ck i).2.items = false) : ∀ j, j ≤ n → bestI ck j = firstL (fun i => (ck i).1) j
  | 0, _ => rfl
  | j + 1, hj => by
    have ih := best_first h j (by omega)
    unfold bestI firstL
    rw [ih]
    have hb := (first_ok (fun i => (ck i).1) j).1
    have hs := h (firstL (fun i => (ck i).1) j) (j + 1) (by omega) hj
    have e : PySem.W.DatumOrd.lt (ck (j + 1)) (ck (firstL (fun i => (ck i).1) j)) = decide ((ck (j + 1)).1 < (ck (firstL (fun i => (ck i).1) j)).1) := by
      show (if (ck (j + 1)).1 = (ck (firstL (fun i => (ck i).1) j)).1 then PySem.W.listLt (ck (j + 1)).2.items (ck (firstL (fun i => (ck i).1) j)).2.items else decide _) = _
      rw [listLt_lex, hs]
      split
      · rename_i q
        rw [q]
        simp
      · rfl
    rw [e]
    simp
theorem st_srt {W : List (List Int)} : (stL W).Pairwise fun x y => HT.lexLt y x = false := (sortL_srt (l := fullL W [])).filter _
theorem st_lt {W : List (List Int)} {i j : Nat} (h : i < j) (hj : j ≤ (stL W).length - 1) (hp : 0 < (stL W).length) : HT.lexLt (stAt W j) (stAt W i) = false := by
  have hj' : j < (stL W).length := by omega
  have := List.pairwise_iff_getElem.1 (st_srt (W := W)) i j (by omega) hj' h
  simpa [stAt, List.getD_eq_getElem?_getD, hj', show i < (stL W).length from by omega] using this
theorem idx_le : ∀ {l : List Int} {k : Nat} {x : Int}, l[k]? = some x → l.idxOf x ≤ k
  | y :: l, 0, x, h => by
    have e : y = x := by simpa using h
    subst e
    simp
  | y :: l, k + 1, x, h => by
    have := idx_le (l := l) (k := k) (x := x) (by simpa using h)
    rw [List.idxOf_cons]
    cases y == x <;> simp <;> omega
theorem idx_first {c : Nat → Int} {l : List Int} {mn : Int} (hl : ∀ i, i < l.length → l[i]? = some (c i)) (hp : 0 < l.length) (hm : mn ∈ l) (hle : ∀ y ∈ l, mn ≤ y) : l.idxOf mn = firstL c (l.length - 1) := by
  obtain ⟨a, b⟩ := first_ok c (l.length - 1)
  have hk := hl _ (show firstL c (l.length - 1) < l.length by omega)
  obtain ⟨i, hi, e⟩ := List.getElem_of_mem hm
  have hci : c i = mn := by
    have := hl i hi
    rw [List.getElem?_eq_getElem hi, e] at this
    exact (Option.some.inj this).symm
  have h1 := (b i (by omega)).1
  have h2 := hle _ (List.mem_of_getElem? hk)
  have hv : c (firstL c (l.length - 1)) = mn := by omega
  have hx := List.idxOf_lt_length_iff.2 hm
  have hxv : c (l.idxOf mn) = mn := by
    have := hl _ hx
    rw [List.getElem?_eq_getElem hx, List.getElem_idxOf] at this
    exact (Option.some.inj this).symm
  by_cases c1 : l.idxOf mn < firstL c (l.length - 1)
  · have := (b _ (show l.idxOf mn ≤ l.length - 1 by omega)).2 c1
    omega
  · by_cases c2 : firstL c (l.length - 1) < l.idxOf mn
    · rw [hv] at hk
      have := idx_le hk
      omega
    · omega

theorem cheap_eq {W : List (List Int)} {mn : Int} (hp : stL W ≠ []) (hm : mn ∈ (stL W).map fun m => (rksL W m).sum) (hle : ∀ y ∈ (stL W).map fun m => (rksL W m).sum, mn ≤ y) : cheap W = stAt W (((stL W).map fun m => (rksL W m).sum).idxOf mn) := by
  have hpos : 0 < (stL W).length := List.length_pos_iff.2 hp
  unfold cheap
  rw [best_first (n := (stL W).length - 1) (fun i j h h2 => st_lt h h2 hpos) _ (Nat.le_refl _)]
  rw [idx_first (c := fun i => (ckC W i).1) (fun i hi => ?_) (by simpa using hpos) hm hle, List.length_map]
  rw [List.length_map] at hi
  rw [List.getElem?_map, List.getElem?_eq_getElem hi]
  simp [ckC, stAt, List.getD_eq_getElem?_getD, hi]
theorem kind_eq {W : List (List Int)} {mn : Int} (hp : stL W ≠ []) (hm : mn ∈ (stL W).map fun m => mxL (rksL W m)) (hle : ∀ y ∈ (stL W).map fun m => mxL (rksL W m), mn ≤ y) : kind W = stAt W (((stL W).map fun m => mxL (rksL W m)).idxOf mn) := by
  have hpos : 0 < (stL W).length := List.length_pos_iff.2 hp
  unfold kind
  rw [best_first (n := (stL W).length - 1) (fun i j h h2 => st_lt h h2 hpos) _ (Nat.le_refl _)]
  rw [idx_first (c := fun i => (ckK W i).1) (fun i hi => ?_) (by simpa using hpos) hm hle, List.length_map]
  rw [List.length_map] at hi
  rw [List.getElem?_map, List.getElem?_eq_getElem hi]
  simp [ckK, stAt, List.getD_eq_getElem?_getD, hi]
end K75

-- part A5
set_option Elab.async false
set_option linter.all false
set_option maxRecDepth 100000
set_option maxHeartbeats 4000000
namespace K75
open PySem PySem.Spec PyProof.Rows L2 VL LamX
section
variable {P : Program} {w : World} {K : PySem.W.Frag} {mg : Str → Option Value} {base : Heap} {Pd : Pk}
abbrev s__law_like : Stmt := topS 28
theorem sc__law_like : FnScope ["told", "due", "one", "two"] ["told", "due"] (L2.defScope s__law_like) := ⟨rfl, rfl, rfl, by decide +kernel, rfl, by decide +kernel, by decide +kernel⟩
def t__law_like (S : Option (Addr × List Int)) (F__law_like : FV) : TVs :=
  (sSeq (sIf (vTest (vIsi S "tuple" (vVar 1)))
    (sSeq (sIf (vOr (vNot (vTest (vIsi S "tuple" (vVar 0)))) (vTest (v2 S neV' (vCB S lenV (vCons (vVar 0) vNil)) (vCB S lenV (vCons (vVar 1) vNil)))))
    (sSeq (sRet (vC (.bl false)))
    sNext)
    sNext)
    (sSeq (sFor (iZp S (vCons (vVar 0) (vCons (vVar 1) vNil))) (gTp (gCn (gN 2) (gCn (gN 3) gNl)))
    (sSeq (sIf (vNot (vTest (vCall F__law_like 2 (vCons (vVar 2) (vCons (vVar 3) vNil)))))
    (sSeq (sRet (vC (.bl false)))
    sNext)
    sNext)
    sNext))
    (sSeq (sRet (vC (.bl true)))
    sNext)))
    sNext)
    (sSeq (sIf (vTest (v2 S (isV false) (vVar 1) (vC .non)))
    (sSeq (sRet (v2 S (isV false) (vVar 0) (vC .non)))
    sNext)
    sNext)
    (sSeq (sIf (vTest (vIsi S "bool" (vVar 1)))
    (sSeq (sRet (vAndV (vIsi S "bool" (vVar 0)) (v2 S eqV' (vVar 0) (vVar 1))))
    sNext)
    sNext)
    (sSeq (sIf (vTest (vIsi S "int" (vVar 1)))
    (sSeq (sRet (vAndV (vIsi S "int" (vVar 0)) (vAndV (vNotV (vIsi S "bool" (vVar 0))) (v2 S eqV' (vVar 0) (vVar 1)))))
    sNext)
    sNext)
    (sSeq (sRet (vAndV (vIsi S "str" (vVar 0)) (v2 S eqV' (vVar 0) (vVar 1))))
    sNext)))))
theorem v__law_like {kk : Nat} {f__law_like : Addr} {fd__law_like : FuncData} {F__law_like : FV} (o__law_like : DOk P w K mg base Pd kk "_law_like" f__law_like fd__law_like ["told", "due"] F__law_like) (b_bool : mg "bool" = none) (b_int : mg "int" = none) (b_isinstance : mg "isinstance" = none) (b_len : mg "len" = none) (b_str : mg "str" = none) (b_tuple : mg "tuple" = none) (b_zip : mg "zip" = none) (cdv : Value) (f : Addr) (A : Around) (outer : List Env) (s : Shared) (H : Hp) (E : XK) (hr : Room kk (A.deeper (envOfC "_law_like" (L2.defScope s__law_like) s.heap.objs.size f cdv))) :
    VSs (cxV P w K mg base ["told", "due", "one", "two"] "_law_like" (L2.defScope s__law_like) f cdv A outer s H E) Pd E (L2.defBody s__law_like) (t__law_like Pd.S F__law_like) :=
  (vss_cons (vs_if (vt_val (ve_isi (by rfl) b_isinstance (by rfl) b_tuple (by decide +kernel) (vv 1)))
    (vss_cons (vs_if (vt_w (vw_or (vt_not (vt_val (ve_isi (by rfl) b_isinstance (by rfl) b_tuple (by decide +kernel) (vv 0)))) (vw_or1 (vt_cmp (c_ne (hu65 hr)) (ve_len (by rfl) b_len (va_cons (vv 0) va_nil)) (ve_len (by rfl) b_len (va_cons (vv 1) va_nil))))))
    (vss_cons (vs_ret ve_bl)
    vss_nil)
    vss_nil)
    (vss_cons (vs_for ownC rfl (vi_zip (by rfl) b_zip (va_cons (vv 0) (va_cons (vv 1) va_nil))) (vg_tup 2 rfl (vgs_cons (vg_name (i := 2) sc__law_like.nd rfl (.inl rfl)) (vgs_cons (vg_name (i := 3) sc__law_like.nd rfl (.inl rfl)) vgs_nil)) (gCn_len (gCn_len gNl_len)))
    (vss_cons (vs_if (vt_not (vt_val (ve_call o__law_like.ok hr (by rfl) o__law_like.at_ o__law_like.kp o__law_like.b passC (va_cons (vv 2) (va_cons (vv 3) va_nil)))))
    (vss_cons (vs_ret ve_bl)
    vss_nil)
    vss_nil)
    vss_nil))
    (vss_cons (vs_ret ve_bl)
    vss_nil)))
    vss_nil)
    (vss_cons (vs_if (vt_cmp c_is (vv 1) ve_non)
    (vss_cons (vs_ret (ve_cmp c_is (vv 0) ve_non))
    vss_nil)
    vss_nil)
    (vss_cons (vs_if (vt_val (ve_isi (by rfl) b_isinstance (by rfl) b_bool (by decide +kernel) (vv 1)))
    (vss_cons (vs_ret (ve_and (ve_isi (by rfl) b_isinstance (by rfl) b_bool (by decide +kernel) (vv 0)) (ve_one (ve_cmp (c_eq (hu65 hr)) (vv 0) (vv 1)))))
    vss_nil)
    vss_nil)
    (vss_cons (vs_if (vt_val (ve_isi (by rfl) b_isinstance (by rfl) b_int (by decide +kernel) (vv 1)))
    (vss_cons (vs_ret (ve_and (ve_isi (by rfl) b_isinstance (by rfl) b_int (by decide +kernel) (vv 0)) (ve_and (ve_not (ve_isi (by rfl) b_isinstance (by rfl) b_bool (by decide +kernel) (vv 0))) (ve_one (ve_cmp (c_eq (hu65 hr)) (vv 0) (vv 1))))))
    vss_nil)
    vss_nil)
    (vss_cons (vs_ret (ve_and (ve_isi (by rfl) b_isinstance (by rfl) b_str (by decide +kernel) (vv 0)) (ve_one (ve_cmp (c_eq (hu65 hr)) (vv 0) (vv 1)))))
    vss_nil)))))
end
end K75

-- part A6
set_option Elab.async false
set_option linter.all false
set_option maxRecDepth 100000
set_option maxHeartbeats 4000000
namespace K75
open PySem PySem.Spec PyProof.Rows L2 VL LamX
section
variable {P : Program} {w : World} {K : PySem.W.Frag} {mg : Str → Option Value} {base : Heap} {Pd : Pk}
abbrev s__law_told : Stmt := topS 37
theorem sc__law_told : FnScope ["action", "e"] ["action"] (L2.defScope s__law_told) := ⟨rfl, rfl, rfl, by decide +kernel, rfl, by decide +kernel, by decide +kernel⟩
abbrev s__law_is : Stmt := topS 29
theorem sc__law_is : FnScope ["action", "due", "got"] ["action", "due"] (L2.defScope s__law_is) := ⟨rfl, rfl, rfl, by decide +kernel, rfl, by decide +kernel, by decide +kernel⟩
def tcs (c_BadList c_NoSuch : Addr) : List TC := [⟨c_BadList, 1, "BadList", "place"⟩, ⟨c_NoSuch, 1, "NoSuch", "value"⟩]
theorem try_ok {c_BadList : Addr} (k_BadList : CaOk K mg "BadList" c_BadList "place") {c_NoSuch : Addr} (k_NoSuch : CaOk K mg "NoSuch" c_NoSuch "value") {g : Addr} {cdv : Value} (A : Around) (outer : List Env) (s : Shared) (H : Hp) (E : XK) : TryOk (cxV P w K mg base ["action", "e"] "_law_told" (L2.defScope s__law_told) g cdv A outer s H E) (match L2.defBody s__law_told with | [.Try _ hs _ _ _] => hs | _ => []) (tcs c_BadList c_NoSuch) :=
  (TryOk.cons (x := "BadList") (n := "e") (c := ⟨c_BadList, 1, "BadList", "place"⟩) ⟨by rfl, by decide, .inl k_BadList.at_⟩ (by rfl) (by rfl) k_BadList.T k_BadList.no (by decide) (by decide) (by rfl) (by show 1 < 2; decide) (TryOk.cons (x := "NoSuch") (n := "e") (c := ⟨c_NoSuch, 1, "NoSuch", "value"⟩) ⟨by rfl, by decide, .inl k_NoSuch.at_⟩ (by rfl) (by rfl) k_NoSuch.T k_NoSuch.no (by decide) (by decide) (by rfl) (by show 1 < 2; decide) .nil))
theorem v__law_is {f__law_told : Addr} {fd__law_told : FuncData} (Fn : L2.Fun K "_law_told" "_law_told" s__law_told f__law_told fd__law_told) (at_ : mg "_law_told" = some (.ref f__law_told)) (b_ : Binds K fd__law_told ["action"] []) {n_ kk : Nat} {f__law_like : Addr} {fd__law_like : FuncData} (o__law_like : DOk P w K mg base Pd kk "_law_like" f__law_like fd__law_like ["told", "due"] (FLike n_)) {c_BadList : Addr} (k_BadList : CaOk K mg "BadList" c_BadList "place") {c_NoSuch : Addr} (k_NoSuch : CaOk K mg "NoSuch" c_NoSuch "value") (hexm : ∀ c ∈ tcs c_BadList c_NoSuch, ∀ c' ∈ tcs c_BadList c_NoSuch, PySem.W.exmOne K (.ref c.C) (.ref c'.C) = some (decide (c'.C = c.C))) {jt : Nat} (hkk : kk ≤ jt + 1) (cdv : Value) (f : Addr) (A : Around) (outer : List Env) (s : Shared) (H : Hp) (E : XK) {fA : Addr} {tv : TK} (hr : Room (jt + 1) (A.deeper (envOfC "_law_is" (L2.defScope s__law_is) s.heap.objs.size f cdv)))
    (th : ThkV P w K mg base Pd (frs outer) jt s H fA tv) (hcl : ∀ vh R Z, tv vh R Z → ∃ F, vh fA = some (cloF fA F)) :
    VSs (cxV P w K mg base ["action", "due", "got"] "_law_is" (L2.defScope s__law_is) f cdv A outer s H E) Pd E (L2.defBody s__law_is) (tIs Pd.S n_ (tcs c_BadList c_NoSuch) fA tv) := by
  have kp := Fn.kp
  obtain ⟨oc, od, kV, doc, pm, an, cdt, ct, osl, rfl, lk, hcd⟩ := Fn.ex
  exact vss_cons (vs_set (i := 2) sc__law_is.nd rfl (.inl rfl) (ve_told (i := 0) rfl rfl rfl th hcl lk hcd sc__law_told rfl hr (by rfl) at_ kp b_ passC rfl (.inl rfl) (.inl rfl) (fun A outer s H E => try_ok k_BadList k_NoSuch A outer s H E) (by intro c hc; simp only [tcs, List.mem_cons, List.not_mem_nil, or_false] at hc; rcases hc with hc | hc <;> (subst hc; exact by show 1 < 2; decide)) hexm))
    (vss_cons (vs_ret (ve_and (ve_cmp (c_eq (hu65 hr)) (ve_ix (vv 2) ve_int) (ve_ix (vv 1) ve_int)) (ve_one (ve_call o__law_like.ok (hr.mono hkk) (by rfl) o__law_like.at_ o__law_like.kp o__law_like.b passC (va_cons (ve_ix (vv 2) ve_int) (va_cons (ve_ix (vv 1) ve_int) va_nil)))))) vss_nil)
end
end K75

-- part A7
set_option Elab.async false
set_option linter.all false
set_option maxRecDepth 100000
set_option maxHeartbeats 4000000
namespace K75
open PySem PySem.Spec PyProof.Rows L2 VL LamX
section
variable {P : Program} {w : World} {K : PySem.W.Frag} {mg : Str → Option Value} {base : Heap} {Pd : Pk}
abbrev s__law_bent_wishes : Stmt := topS 36
theorem sc__law_bent_wishes : FnScope ["tape", "wishes", "many", "word", "some", "at", "other", "one", "rest"] ["tape", "wishes"] (L2.defScope s__law_bent_wishes) := ⟨rfl, rfl, rfl, by decide +kernel, rfl, by decide +kernel, by decide +kernel⟩
def t__law_bent_wishes (S : Option (Addr × List Int)) (F__law_take : FV) : TVs :=
  (sSeq (sPar 2 3 (vCons (vCB S lenV (vCons (vVar 1) vNil)) (vCons (vCall F__law_take 2 (vCons (vVar 0) (vCons (vC (.int 3)) vNil))) vNil)))
    (sLater (sSeq (sIf (vOr (vTest (v2 S eqV' (vVar 3) (vC (.int 0)))) (vTest (v2 S eqV' (vVar 2) (vC (.int 0)))))
    (sSeq (sAsg (vLst (vCons (vTup (vCons (vC .non) (vCons (vC .non) vNil))) (vCons (vTup (vCons (vCB S listV (vCons (vVar 1) vNil)) (vCons (vC .non) vNil))) (vCons (vTup (vCons vDnew (vCons (vC .non) vNil))) (vCons (vTup (vCons (v2 S mulV (vTup (vCons (vTup vNil) vNil)) (vC (.int 9))) (vCons (vC .non) vNil))) (vCons (vTup (vCons (vC (.int 5)) (vCons (vC .non) vNil))) (vCons (vTup (vCons (vC (.str "")) (vCons (vC .non) vNil))) (vCons (vTup (vCons (v2 S mulV (vTup (vCons (vC .non) vNil)) (vC (.int 9))) (vCons (vC .non) vNil))) vNil)))))))) (gN 4))
    (sLater (sSeq (sRet (v2 S ixV (vVar 4) (vCall F__law_take 2 (vCons (vVar 0) (vCons (vCB S lenV (vCons (vVar 4) vNil)) vNil)))))
    sNext)))
    sNext)
    (sLater (sSeq (sAsg (vCall F__law_take 2 (vCons (vVar 0) (vCons (vVar 2) vNil))) (gN 5))
    (sLater (sSeq (sIf (vAnd (vTest (v2 S eqV' (vVar 3) (vC (.int 1)))) (vTest (v2 S gtV (vVar 2) (vC (.int 1)))))
    (sSeq (sAsg (v2 S (intsV (fun _ j => j ≠ 0) Int.fmod) (v2 S addV (v2 S addV (vVar 5) (vC (.int 1))) (vCall F__law_take 2 (vCons (vVar 0) (vCons (v2 S (ints0V fun i j => .int (i - j)) (vVar 2) (vC (.int 1))) vNil)))) (vVar 2)) (gN 6))
    (sLater (sSeq (sAsg (vIf (vTest (v2 S (inV' true) (vVar 6) (v2 S ixV (vVar 1) (vVar 5)))) (v2 S addV (v2 S ixV (vVar 1) (vVar 5)) (vTup (vCons (vVar 6) vNil))) (vCB S tupleV (vCons (vLc (iSq S (v2 S ixV (vVar 1) (vVar 5))) (gN 7) (vTest (v2 S neV' (vVar 7) (vVar 6))) (vVar 7) [7]) vNil))) (gN 4))
    (sLater (sSeq (sRet (vTup (vCons (v2 S addV (v2 S addV (vSl S (vVar 1) vNo (vPart (vVar 5))) (vTup (vCons (vVar 4) vNil))) (vSl S (vVar 1) (vPart (v2 S addV (vVar 5) (vC (.int 1)))) vNo)) (vCons (vC (.str "mutual")) vNil))))
    sNext)))))
    sNext)
    (sLater (sSeq (sAsg (vLst (vCons (vC .non) (vCons (vCB S listV (vCons (v2 S ixV (vVar 1) (vVar 5)) vNil)) (vCons (vTup (vCons (vVar 5) vNil)) (vCons (vTup (vCons (vVar 2) vNil)) (vCons (vTup (vCons (vNeg (vC (.int 1))) vNil)) (vCons (vTup (vCons (vC (.bl true)) vNil)) (vCons (vTup (vCons (vC .non) vNil)) (vCons (vTup (vCons (vC (.str "0")) vNil)) (vCons (vTup (vCons (vLst vNil) vNil)) (vCons (vTup (vCons (vC (.int 0)) (vCons (vLst (vCons (vC (.int 1)) vNil)) vNil))) (vCons (vTup (vCons vDnew vNil)) (vCons (v2 S addV (v2 S addV (v2 S ixV (vVar 1) (vVar 5)) (vSl S (v2 S ixV (vVar 1) (vVar 5)) vNo (vPart (vC (.int 1))))) (vTup (vCons (vVar 5) vNil))) (vCons (vC (.int 5)) (vCons vDnew vNil))))))))))))))) (gN 8))
    (sLater (sSeq (sIf (vTest (v2 S gtV (vVar 2) (vC (.int 1))))
    (sSeq (sAsg (v2 S (intsV (fun _ j => j ≠ 0) Int.fmod) (v2 S addV (v2 S addV (vVar 5) (vC (.int 1))) (vCall F__law_take 2 (vCons (vVar 0) (vCons (v2 S (ints0V fun i j => .int (i - j)) (vVar 2) (vC (.int 1))) vNil)))) (vVar 2)) (gN 6))
    (sLater (sSeq (sAsg (v2 S addV (vVar 8) (vLst (vCons (vTup (vCons (vVar 6) (vCons (vVar 6) vNil))) (vCons (v2 S addV (vIf (vTest (v2 S neV' (v2 S ixV (vVar 1) (vVar 5)) (vTup vNil))) (v2 S ixV (vVar 1) (vVar 5)) (vTup (vCons (vVar 6) vNil))) (vSl S (vIf (vTest (v2 S neV' (v2 S ixV (vVar 1) (vVar 5)) (vTup vNil))) (v2 S ixV (vVar 1) (vVar 5)) (vTup (vCons (vVar 6) vNil))) (vPart (vNeg (vC (.int 1)))) vNo)) vNil)))) (gN 8))
    sNext)))
    sNext)
    (sLater (sSeq (sRet (vTup (vCons (v2 S addV (v2 S addV (vSl S (vVar 1) vNo (vPart (vVar 5))) (vTup (vCons (v2 S ixV (vVar 8) (vCall F__law_take 2 (vCons (vVar 0) (vCons (vCB S lenV (vCons (vVar 8) vNil)) vNil)))) vNil))) (vSl S (vVar 1) (vPart (v2 S addV (vVar 5) (vC (.int 1)))) vNo)) (vCons (vVar 5) vNil))))
    sNext)))))))))))))
theorem v__law_bent_wishes {f__law_take : Addr} {fd__law_take : FuncData} {F__law_take : FV} (o__law_take : DOk P w K mg base Pd 1 "_law_take" f__law_take fd__law_take ["tape", "limit"] F__law_take) (b_len : mg "len" = none) (b_list : mg "list" = none) (b_tuple : mg "tuple" = none) (cdv : Value) (f : Addr) (A : Around) (outer : List Env) (s : Shared) (H : Hp) (E : XK) (hr : Room 1 (A.deeper (envOfC "_law_bent_wishes" (L2.defScope s__law_bent_wishes) s.heap.objs.size f cdv))) :
    VSs (cxV P w K mg base ["tape", "wishes", "many", "word", "some", "at", "other", "one", "rest"] "_law_bent_wishes" (L2.defScope s__law_bent_wishes) f cdv A outer s H E) Pd E (L2.defBody s__law_bent_wishes) (t__law_bent_wishes Pd.S F__law_take) :=
  (vss_cons (vs_par (i := 2) (j := 3) rfl sc__law_bent_wishes.nd rfl rfl (by decide) rfl rfl (va_cons (ve_len (by rfl) b_len (va_cons (vv 1) va_nil)) (va_cons (ve_call o__law_take.ok (hr.mono (by decide)) (by rfl) o__law_take.at_ o__law_take.kp o__law_take.b passC (va_cons (vv 0) (va_cons ve_int va_nil))) va_nil)))
    (vss_cons (vs_if (vt_w (vw_or (vt_cmp (c_eq (hu65 hr)) (vv 3) ve_int) (vw_or1 (vt_cmp (c_eq (hu65 hr)) (vv 2) ve_int))))
    (vss_cons (vs_set (i := 4) sc__law_bent_wishes.nd rfl (.inl rfl) (ve_lst (va_cons (ve_tup (va_cons ve_non (va_cons ve_non va_nil))) (va_cons (ve_tup (va_cons (ve_listC (by rfl) b_list (va_cons (vv 1) va_nil)) (va_cons ve_non va_nil))) (va_cons (ve_tup (va_cons ve_dnew (va_cons ve_non va_nil))) (va_cons (ve_tup (va_cons (ve_mul (ve_tup (va_cons (ve_tup va_nil) va_nil)) ve_int) (va_cons ve_non va_nil))) (va_cons (ve_tup (va_cons ve_int (va_cons ve_non va_nil))) (va_cons (ve_tup (va_cons ve_str (va_cons ve_non va_nil))) (va_cons (ve_tup (va_cons (ve_mul (ve_tup (va_cons ve_non va_nil)) ve_int) (va_cons ve_non va_nil))) va_nil)))))))))
    (vss_cons (vs_ret (ve_ix (vv 4) (ve_call o__law_take.ok (hr.mono (by decide)) (by rfl) o__law_take.at_ o__law_take.kp o__law_take.b passC (va_cons (vv 0) (va_cons (ve_len (by rfl) b_len (va_cons (vv 4) va_nil)) va_nil)))))
    vss_nil))
    vss_nil)
    (vss_cons (vs_set (i := 5) sc__law_bent_wishes.nd rfl (.inl rfl) (ve_call o__law_take.ok (hr.mono (by decide)) (by rfl) o__law_take.at_ o__law_take.kp o__law_take.b passC (va_cons (vv 0) (va_cons (vv 2) va_nil))))
    (vss_cons (vs_if (vt_w (vw_and (vt_cmp (c_eq (hu65 hr)) (vv 3) ve_int) (vw_and1 (vt_cmp c_gt (vv 2) ve_int))))
    (vss_cons (vs_set (i := 6) sc__law_bent_wishes.nd rfl (.inr rfl) (ve_mod (ve_add (ve_add (vv 5) ve_int) (ve_call o__law_take.ok (hr.mono (by decide)) (by rfl) o__law_take.at_ o__law_take.kp o__law_take.b passC (va_cons (vv 0) (va_cons (ve_sub (vv 2) ve_int) va_nil)))) (vv 2)))
    (vss_cons (vs_set (i := 4) sc__law_bent_wishes.nd rfl (.inl rfl) (ve_if (vt_cmp (c_notIn (hu65 hr)) (vv 6) (ve_ix (vv 1) (vv 5))) (ve_add (ve_ix (vv 1) (vv 5)) (ve_tup (va_cons (vv 6) va_nil))) (ve_tupleC (by rfl) b_tuple (va_cons (ve_lc (own := [("one", 7)]) rfl sc__law_bent_wishes.nd (vi_sq (ve_ix (vv 1) (vv 5))) (blkOk_by (by rfl)) (fun _ _ _ _ _ => (vgw_name (i := 7) sc__law_bent_wishes.nd rfl (.inl rfl) (by decide))) (fun _ _ _ _ _ => (vts_one (vt_cmp (c_ne (hu65 hr)) (vv 7) (vv 6)))) (fun _ _ _ _ _ => (vv 7))) va_nil))))
    (vss_cons (vs_ret (ve_tup (va_cons (ve_add (ve_add (ve_slice (vv 1) vo_none (vo_some (vv 5))) (ve_tup (va_cons (vv 4) va_nil))) (ve_slice (vv 1) (vo_some (ve_add (vv 5) ve_int)) vo_none)) (va_cons ve_str va_nil))))
    vss_nil)))
    vss_nil)
    (vss_cons (vs_set (i := 8) sc__law_bent_wishes.nd rfl (.inl rfl) (ve_lst (va_cons ve_non (va_cons (ve_listC (by rfl) b_list (va_cons (ve_ix (vv 1) (vv 5)) va_nil)) (va_cons (ve_tup (va_cons (vv 5) va_nil)) (va_cons (ve_tup (va_cons (vv 2) va_nil)) (va_cons (ve_tup (va_cons (ve_neg ve_int) va_nil)) (va_cons (ve_tup (va_cons ve_bl va_nil)) (va_cons (ve_tup (va_cons ve_non va_nil)) (va_cons (ve_tup (va_cons ve_str va_nil)) (va_cons (ve_tup (va_cons (ve_lst va_nil) va_nil)) (va_cons (ve_tup (va_cons ve_int (va_cons (ve_lst (va_cons ve_int va_nil)) va_nil))) (va_cons (ve_tup (va_cons ve_dnew va_nil)) (va_cons (ve_add (ve_add (ve_ix (vv 1) (vv 5)) (ve_slice (ve_ix (vv 1) (vv 5)) vo_none (vo_some ve_int))) (ve_tup (va_cons (vv 5) va_nil))) (va_cons ve_int (va_cons ve_dnew va_nil))))))))))))))))
    (vss_cons (vs_if (vt_cmp c_gt (vv 2) ve_int)
    (vss_cons (vs_set (i := 6) sc__law_bent_wishes.nd rfl (.inr rfl) (ve_mod (ve_add (ve_add (vv 5) ve_int) (ve_call o__law_take.ok (hr.mono (by decide)) (by rfl) o__law_take.at_ o__law_take.kp o__law_take.b passC (va_cons (vv 0) (va_cons (ve_sub (vv 2) ve_int) va_nil)))) (vv 2)))
    (vss_cons (vs_set (i := 8) sc__law_bent_wishes.nd rfl (.inl rfl) (ve_add (vv 8) (ve_lst (va_cons (ve_tup (va_cons (vv 6) (va_cons (vv 6) va_nil))) (va_cons (ve_add (ve_if (vt_cmp (c_ne (hu65 hr)) (ve_ix (vv 1) (vv 5)) (ve_tup va_nil)) (ve_ix (vv 1) (vv 5)) (ve_tup (va_cons (vv 6) va_nil))) (ve_slice (ve_if (vt_cmp (c_ne (hu65 hr)) (ve_ix (vv 1) (vv 5)) (ve_tup va_nil)) (ve_ix (vv 1) (vv 5)) (ve_tup (va_cons (vv 6) va_nil))) (vo_some (ve_neg ve_int)) vo_none)) va_nil)))))
    vss_nil))
    vss_nil)
    (vss_cons (vs_ret (ve_tup (va_cons (ve_add (ve_add (ve_slice (vv 1) vo_none (vo_some (vv 5))) (ve_tup (va_cons (ve_ix (vv 8) (ve_call o__law_take.ok (hr.mono (by decide)) (by rfl) o__law_take.at_ o__law_take.kp o__law_take.b passC (va_cons (vv 0) (va_cons (ve_len (by rfl) b_len (va_cons (vv 8) va_nil)) va_nil)))) va_nil))) (ve_slice (vv 1) (vo_some (ve_add (vv 5) ve_int)) vo_none)) (va_cons (vv 5) va_nil))))
    vss_nil)))))))
abbrev s__law_right : Stmt := topS 38
theorem sc__law_right : FnScope ["wishes", "due", "calls", "call", "alone", "person", "one", "mates", "some", "costs", "regrets", "ranks"] ["wishes"] (L2.defScope s__law_right) := ⟨rfl, rfl, rfl, by decide +kernel, rfl, by decide +kernel, by decide +kernel⟩
def t__law_right (S : Option (Addr × List Int)) (F__law_rank F__law_steady F_all_steady F_always_alone F_cheapest_steady F_kindest_steady : FV) (n_ : Nat) (cs_ : List TC) (mk_1 : Addr → Clo) (mk_2 : Addr → Clo) (mk_3 : Addr → Addr → Clo) (mk_4 : Addr → Addr → Clo) (mk_5 : Addr → Clo) (mk_6 : Addr → Clo) (mk_7 : Addr → Clo) : TVs :=
  (sSeq (sAsg (vCall F__law_steady 1 (vCons (vVar 0) vNil)) (gN 1))
    (sLater (sSeq (sIf (vNot (vTest (vIs n_ cs_ [((fun _ c_ => mk_1 c_), ([] : List U), (vCall F_all_steady 1 (vCons (vVar 0) vNil)))] (fun Γ => Γ) (vLam mk_1) (vTup (vCons (vC (.str "is")) (vCons (vCB S tupleV (vCons (vVar 1) vNil)) vNil))))))
    (sSeq (sRet (vC (.bl false)))
    sNext)
    sNext)
    (sLater (sSeq (sIf (vTest (v2 S eqV' (vVar 1) (vLst vNil)))
    (sSeq (sAsg (vLst (vCons (vLam mk_2) (vCons (vLamD mk_3) (vCons (vLamD mk_4) vNil)))) (gN 2))
    (sLater (sSeq (sRet (v2 S eqV' (vLcT (iSq S (vVar 2)) (gN 3) (fun Γb => (vNot (vTest (vIs n_ cs_ [((fun _ c_ => mk_1 c_), ([] : List U), (vCall F_all_steady 1 (vCons (vVar 0) vNil))), ((fun _ c_ => mk_2 c_), ([] : List U), (vCall F_always_alone 1 (vCons (vVar 0) vNil))), (mk_3, [U.int 0], (vCall F_cheapest_steady 1 (vCons (vVar 0) vNil))), (mk_4, [U.int 0], (vCall F_kindest_steady 1 (vCons (vVar 0) vNil))), ((fun _ c_ => mk_5 c_), ([] : List U), (vCall F_always_alone 1 (vCons (vVar 0) vNil))), ((fun _ c_ => mk_6 c_), ([] : List U), (vCall F_cheapest_steady 1 (vCons (vVar 0) vNil))), ((fun _ c_ => mk_7 c_), ([] : List U), (vCall F_kindest_steady 1 (vCons (vVar 0) vNil)))] (fun _ => Γb) (vVar 3) (vTup (vCons (vC (.str "NoSuch")) (vCons (vC (.str "steady")) vNil))))))) (fun Γb => (vC (.int 1))) [3]) (vLst vNil)))
    sNext)))
    sNext)
    (sLater (sSeq (sAsg (vLc (iSq S (vVar 1)) (gN 7) vYes (vCB S tupleV (vCons (vLc (iEn S (vCons (vVar 7) vNil)) (gTp (gCn (gN 5) (gCn (gN 6) gNl))) (vTest (v2 S eqV' (vVar 5) (vVar 6))) (vVar 5) [5, 6]) vNil)) [7]) (gN 4))
    (sLater (sSeq (sIf (vOr (vTest (v2 S neV' (vLc (iSq S (vVar 4)) (gN 8) (vTest (v2 S neV' (vVar 8) (v2 S ixV (vVar 4) (vC (.int 0))))) (vC (.int 1)) [8]) (vLst vNil))) (vNot (vTest (vIs n_ cs_ [((fun _ c_ => mk_5 c_), ([] : List U), (vCall F_always_alone 1 (vCons (vVar 0) vNil)))] (fun Γ => Γ) (vLam mk_5) (vTup (vCons (vC (.str "is")) (vCons (v2 S ixV (vVar 4) (vC (.int 0))) vNil)))))))
    (sSeq (sRet (vC (.bl false)))
    sNext)
    sNext)
    (sLater (sSeq (sPar 9 10 (vCons (vLst vNil) (vCons (vLst vNil) vNil)))
    (sLater (sSeq (sFor (iSq S (vVar 1)) (gN 7)
    (sSeq (sAsg (vLc (iEn S (vCons (vVar 7) vNil)) (gTp (gCn (gN 5) (gCn (gN 6) gNl))) vYes (vCall F__law_rank 3 (vCons (vVar 0) (vCons (vVar 5) (vCons (vVar 6) vNil)))) [5, 6]) (gN 11))
    (sLater (sSeq (sDrop (vM S appendV (vVar 9) (vCons (vCB S sumV (vCons (vVar 11) vNil)) vNil)))
    (sLater (sSeq (sDrop (vM S appendV (vVar 10) (vCons (vCB S maxV (vCons (v2 S addV (vLst (vCons (vC (.int 0)) vNil)) (vVar 11)) vNil)) vNil)))
    sNext))))))
    (sLater (sSeq (sIf (vNot (vTest (vIs n_ cs_ [((fun _ c_ => mk_6 c_), ([] : List U), (vCall F_cheapest_steady 1 (vCons (vVar 0) vNil)))] (fun Γ => Γ) (vLam mk_6) (vTup (vCons (vC (.str "is")) (vCons (v2 S ixV (vVar 1) (vIndex S (vVar 9) (vCons (vCB S minV (vCons (vVar 9) vNil)) vNil))) vNil))))))
    (sSeq (sRet (vC (.bl false)))
    sNext)
    sNext)
    (sLater (sSeq (sRet (vIs n_ cs_ [((fun _ c_ => mk_7 c_), ([] : List U), (vCall F_kindest_steady 1 (vCons (vVar 0) vNil)))] (fun Γ => Γ) (vLam mk_7) (vTup (vCons (vC (.str "is")) (vCons (v2 S ixV (vVar 1) (vIndex S (vVar 10) (vCons (vCB S minV (vCons (vVar 10) vNil)) vNil))) vNil)))))
    sNext)))))))))))))))))
theorem v__law_right {f__law_rank : Addr} {fd__law_rank : FuncData} {F__law_rank : FV} (o__law_rank : DOk P w K mg base Pd 1 "_law_rank" f__law_rank fd__law_rank ["wishes", "person", "other"] F__law_rank) {f__law_steady : Addr} {fd__law_steady : FuncData} {F__law_steady : FV} (o__law_steady : DOk P w K mg base Pd 3 "_law_steady" f__law_steady fd__law_steady ["wishes"] F__law_steady) {f_all_steady : Addr} {fd_all_steady : FuncData} {F_all_steady : FV} (o_all_steady : DOk P w K mg base Pd 5 "all_steady" f_all_steady fd_all_steady ["wishes"] F_all_steady) {f_always_alone : Addr} {fd_always_alone : FuncData} {F_always_alone : FV} (o_always_alone : DOk P w K mg base Pd 6 "always_alone" f_always_alone fd_always_alone ["wishes"] F_always_alone) {f_cheapest_steady : Addr} {fd_cheapest_steady : FuncData} {F_cheapest_steady : FV} (o_cheapest_steady : DOk P w K mg base Pd 6 "cheapest_steady" f_cheapest_steady fd_cheapest_steady ["wishes"] F_cheapest_steady) {f_kindest_steady : Addr} {fd_kindest_steady : FuncData} {F_kindest_steady : FV} (o_kindest_steady : DOk P w K mg base Pd 6 "kindest_steady" f_kindest_steady fd_kindest_steady ["wishes"] F_kindest_steady) (b_enumerate : mg "enumerate" = none) (b_max : mg "max" = none) (b_min : mg "min" = none) (b_sum : mg "sum" = none) (b_tuple : mg "tuple" = none) {n_ : Nat} {cs_ : List TC} (o__law_is : IsOk P w K mg base Pd 7 n_ cs_) {cA Pa : Addr} (tb_ : TabB base mg cA Pa) (hT_ : (Pa, ("_law_right.<locals>." : Str) ++ "<lambda>") ∈ Pd.T) (hU_ : ∀ p ∈ Pd.T, p.1 = Pa → p.2 = ("_law_right.<locals>." : Str) ++ "<lambda>") (cdv : Value) (hcd_ : cdv = .ref cA) (f : Addr) (A : Around) (outer : List Env) (s : Shared) (H : Hp) (E : XK) (hr : Room 9 (A.deeper (envOfC "_law_right" (L2.defScope s__law_right) s.heap.objs.size f cdv))) :
    ∃ mk_1 : Addr → Clo, ∃ mk_2 : Addr → Clo, ∃ mk_3 : Addr → Addr → Clo, ∃ mk_4 : Addr → Addr → Clo, ∃ mk_5 : Addr → Clo, ∃ mk_6 : Addr → Clo, ∃ mk_7 : Addr → Clo, VSs (cxV P w K mg base ["wishes", "due", "calls", "call", "alone", "person", "one", "mates", "some", "costs", "regrets", "ranks"] "_law_right" (L2.defScope s__law_right) f cdv A outer s H E) Pd E (L2.defBody s__law_right) (t__law_right Pd.S F__law_rank F__law_steady F_all_steady F_always_alone F_cheapest_steady F_kindest_steady n_ cs_ mk_1 mk_2 mk_3 mk_4 mk_5 mk_6 mk_7) :=
  ⟨_, _, _, _, _, _, _, (vss_cons (vs_set (i := 1) sc__law_right.nd rfl (.inl rfl) (ve_call o__law_steady.ok (hr.mono (by decide)) (by rfl) o__law_steady.at_ o__law_steady.kp o__law_steady.b passC (va_cons (vv 0) va_nil)))
    (vss_cons (vs_if (vt_not (vt_val (o__law_is.run rfl rfl rfl rfl rfl (hr.mono (by decide)) (by rfl) passC (ve_lam (ps := []) tb_ hcd_ hT_ hU_ (cloS_by (by rfl))) (ve_tup (va_cons ve_str (va_cons (ve_tupleC (by rfl) b_tuple (va_cons (vv 1) va_nil)) va_nil))) (lam_cons (LamOk.here (lam0 (k := 6) (cloS_by (by rfl)) (fun _ => cloB_all rfl rfl fun _ _ _ _ _ _ us h => by match us, h with | [], _ => rfl) (fun _ _ _ _ _ _ _ hr2 => (ve_callK0 o_all_steady.ok (hr2.mono (by decide)) (by rfl) o_all_steady.at_ o_all_steady.kp o_all_steady.kb passL (vk_cons (vv 0) vk_nil))))) lam_nil) (by rfl) (by rfl) (by rfl))))
    (vss_cons (vs_ret ve_bl)
    vss_nil)
    vss_nil)
    (vss_cons (vs_if (vt_cmp (c_eq (hu65 hr)) (vv 1) (ve_lst va_nil))
    (vss_cons (vs_set (i := 2) sc__law_right.nd rfl (.inl rfl) (ve_lst (va_cons (ve_lam (ps := []) tb_ hcd_ hT_ hU_ (cloS_by (by rfl))) (va_cons (ve_lamD (ps := ["x"]) tb_ hcd_ hT_ hU_ (cloS_by (by rfl))) (va_cons (ve_lamD (ps := ["y"]) tb_ hcd_ hT_ hU_ (cloS_by (by rfl))) va_nil)))))
    (vss_cons (vs_ret (ve_cmp (c_eq (hu65 hr)) (ve_lcT (own := [("call", 3)]) rfl sc__law_right.nd (vi_sq (vv 2)) (blkOk_by (by rfl)) (fun Γb _ _ _ _ _ hB => ⟨(vgw_name (i := 3) sc__law_right.nd rfl (.inl rfl) (by decide)), (vts_one (vt_not (vt_val (o__law_is.run rfl rfl rfl rfl rfl (hr.mono (by decide)) (by rfl) pass0 (vv 3) (ve_tup (va_cons ve_str (va_cons ve_str va_nil))) (lam_cons (LamOk.blk (lam0 (k := 6) (cloS_by (by rfl)) (fun _ => cloB_all rfl rfl fun _ _ _ _ _ _ us h => by match us, h with | [], _ => rfl) (fun _ _ _ _ _ _ _ hr2 => (ve_callK0 o_all_steady.ok (hr2.mono (by decide)) (by rfl) o_all_steady.at_ o_all_steady.kp o_all_steady.kb passL (vk_cons (vv 0) vk_nil)))) hB) (lam_cons (LamOk.blk (lam0 (k := 6) (cloS_by (by rfl)) (fun _ => cloB_all rfl rfl fun _ _ _ _ _ _ us h => by match us, h with | [], _ => rfl) (fun _ _ _ _ _ _ _ hr2 => (ve_call o_always_alone.ok (hr2.mono (by decide)) (by rfl) o_always_alone.at_ o_always_alone.kp o_always_alone.b passL (va_cons (vv 0) va_nil)))) hB) (lam_cons (LamOk.blk (lamD (k := 6) (x := "x") (cloS_by (by rfl)) (fun _ _ => cloB_d1 rfl fun _ _ _ => ⟨_, rfl, fun _ => rfl⟩) (fun _ _ _ _ _ _ _ hr2 => (ve_call o_cheapest_steady.ok (hr2.mono (by decide)) (by rfl) o_cheapest_steady.at_ o_cheapest_steady.kp o_cheapest_steady.b passL (va_cons (vv 0) va_nil)))) hB) (lam_cons (LamOk.blk (lamD (k := 6) (x := "y") (cloS_by (by rfl)) (fun _ _ => cloB_d1 rfl fun _ _ _ => ⟨_, rfl, fun _ => rfl⟩) (fun _ _ _ _ _ _ _ hr2 => (ve_call o_kindest_steady.ok (hr2.mono (by decide)) (by rfl) o_kindest_steady.at_ o_kindest_steady.kp o_kindest_steady.b passL (va_cons (vv 0) va_nil)))) hB) (lam_cons (LamOk.blk (lam0 (k := 6) (cloS_by (by rfl)) (fun _ => cloB_all rfl rfl fun _ _ _ _ _ _ us h => by match us, h with | [], _ => rfl) (fun _ _ _ _ _ _ _ hr2 => (ve_callK0 o_always_alone.ok (hr2.mono (by decide)) (by rfl) o_always_alone.at_ o_always_alone.kp o_always_alone.kb passL (vk_cons (vv 0) vk_nil)))) hB) (lam_cons (LamOk.blk (lam0 (k := 6) (cloS_by (by rfl)) (fun _ => cloB_all rfl rfl fun _ _ _ _ _ _ us h => by match us, h with | [], _ => rfl) (fun _ _ _ _ _ _ _ hr2 => (ve_callK0 o_cheapest_steady.ok (hr2.mono (by decide)) (by rfl) o_cheapest_steady.at_ o_cheapest_steady.kp o_cheapest_steady.kb passL (vk_cons (vv 0) vk_nil)))) hB) (lam_cons (LamOk.blk (lam0 (k := 6) (cloS_by (by rfl)) (fun _ => cloB_all rfl rfl fun _ _ _ _ _ _ us h => by match us, h with | [], _ => rfl) (fun _ _ _ _ _ _ _ hr2 => (ve_callK0 o_kindest_steady.ok (hr2.mono (by decide)) (by rfl) o_kindest_steady.at_ o_kindest_steady.kp o_kindest_steady.kb passL (vk_cons (vv 0) vk_nil)))) hB) lam_nil))))))) (by rfl) (by rfl) (by rfl))))), ve_int⟩)) (ve_lst va_nil)))
    vss_nil))
    vss_nil)
    (vss_cons (vs_set (i := 4) sc__law_right.nd rfl (.inr rfl) (ve_lc (own := [("mates", 7)]) rfl sc__law_right.nd (vi_sq (vv 1)) (blkOk_by (by rfl)) (fun _ _ _ _ _ => (vgw_name (i := 7) sc__law_right.nd rfl (.inl rfl) (by decide))) (fun _ _ _ _ _ => vts_nil) (fun _ _ _ _ _ => (ve_tupleC (by rfl) b_tuple (va_cons (ve_lc (own := [("person", 5), ("one", 6)]) rfl sc__law_right.nd (vi_enum (by rfl) b_enumerate (va_cons (vv 7) va_nil)) (blkOk_by (by rfl)) (fun _ _ _ _ _ => (vgw_tup 2 rfl (vgsw_cons (vgw_name (i := 5) sc__law_right.nd rfl (by first | exact .inl rfl | exact .inr rfl) (by decide)) (vgsw_cons (vgw_name (i := 6) sc__law_right.nd rfl (by first | exact .inl rfl | exact .inr rfl) (by decide)) vgsw_nil)) (gCn_len (gCn_len gNl_len)))) (fun _ _ _ _ _ => (vts_one (vt_cmp (c_eq (hu65 hr)) (vv 5) (vv 6)))) (fun _ _ _ _ _ => (vv 5))) va_nil)))))
    (vss_cons (vs_if (vt_w (vw_or (vt_cmp (c_ne (hu65 hr)) (ve_lc (own := [("some", 8)]) rfl sc__law_right.nd (vi_sq (vv 4)) (blkOk_by (by rfl)) (fun _ _ _ _ _ => (vgw_name (i := 8) sc__law_right.nd rfl (.inl rfl) (by decide))) (fun _ _ _ _ _ => (vts_one (vt_cmp (c_ne (hu65 hr)) (vv 8) (ve_ix (vv 4) ve_int)))) (fun _ _ _ _ _ => ve_int)) (ve_lst va_nil)) (vw_or1 (vt_not (vt_val (o__law_is.run rfl rfl rfl rfl rfl (hr.mono (by decide)) (by rfl) passC (ve_lam (ps := []) tb_ hcd_ hT_ hU_ (cloS_by (by rfl))) (ve_tup (va_cons ve_str (va_cons (ve_ix (vv 4) ve_int) va_nil))) (lam_cons (LamOk.here (lam0 (k := 6) (cloS_by (by rfl)) (fun _ => cloB_all rfl rfl fun _ _ _ _ _ _ us h => by match us, h with | [], _ => rfl) (fun _ _ _ _ _ _ _ hr2 => (ve_callK0 o_always_alone.ok (hr2.mono (by decide)) (by rfl) o_always_alone.at_ o_always_alone.kp o_always_alone.kb passL (vk_cons (vv 0) vk_nil))))) lam_nil) (by rfl) (by rfl) (by rfl)))))))
    (vss_cons (vs_ret ve_bl)
    vss_nil)
    vss_nil)
    (vss_cons (vs_par (i := 9) (j := 10) rfl sc__law_right.nd rfl rfl (by decide) rfl rfl (va_cons (ve_lst va_nil) (va_cons (ve_lst va_nil) va_nil)))
    (vss_cons (vs_for ownC rfl (vi_sq (vv 1)) (vg_name (i := 7) sc__law_right.nd rfl (.inl rfl))
    (vss_cons (vs_lc (i := 11) (own := [("person", 5), ("one", 6)])  rfl sc__law_right.nd rfl rfl (vi_enum (by rfl) b_enumerate (va_cons (vv 7) va_nil)) (blkOk_by (by rfl)) (fun _ _ _ _ _ => (vgw_tup 2 rfl (vgsw_cons (vgw_name (i := 5) sc__law_right.nd rfl (by first | exact .inl rfl | exact .inr rfl) (by decide)) (vgsw_cons (vgw_name (i := 6) sc__law_right.nd rfl (by first | exact .inl rfl | exact .inr rfl) (by decide)) vgsw_nil)) (gCn_len (gCn_len gNl_len)))) (fun _ _ _ _ _ => vts_nil) (fun _ _ _ _ _ => (ve_call o__law_rank.ok (hr.mono (by decide)) (by rfl) o__law_rank.at_ o__law_rank.kp o__law_rank.b pass0 (va_cons (vv 0) (va_cons (vv 5) (va_cons (vv 6) va_nil))))))
    (vss_cons (vs_expr (ve_append (vv 9) (va_cons (ve_sum rfl (by rfl) b_sum (va_cons (vv 11) va_nil)) va_nil)))
    (vss_cons (vs_expr (ve_append (vv 10) (va_cons (ve_max rfl (by rfl) b_max (va_cons (ve_add (ve_lst (va_cons ve_int va_nil)) (vv 11)) va_nil)) va_nil)))
    vss_nil))))
    (vss_cons (vs_if (vt_not (vt_val (o__law_is.run rfl rfl rfl rfl rfl (hr.mono (by decide)) (by rfl) passC (ve_lam (ps := []) tb_ hcd_ hT_ hU_ (cloS_by (by rfl))) (ve_tup (va_cons ve_str (va_cons (ve_ix (vv 1) (ve_index (hu65 hr) (vv 9) (va_cons (ve_min rfl (by rfl) b_min (va_cons (vv 9) va_nil)) va_nil))) va_nil))) (lam_cons (LamOk.here (lam0 (k := 6) (cloS_by (by rfl)) (fun _ => cloB_all rfl rfl fun _ _ _ _ _ _ us h => by match us, h with | [], _ => rfl) (fun _ _ _ _ _ _ _ hr2 => (ve_callK0 o_cheapest_steady.ok (hr2.mono (by decide)) (by rfl) o_cheapest_steady.at_ o_cheapest_steady.kp o_cheapest_steady.kb passL (vk_cons (vv 0) vk_nil))))) lam_nil) (by rfl) (by rfl) (by rfl))))
    (vss_cons (vs_ret ve_bl)
    vss_nil)
    vss_nil)
    (vss_cons (vs_ret (o__law_is.run rfl rfl rfl rfl rfl (hr.mono (by decide)) (by rfl) passC (ve_lam (ps := []) tb_ hcd_ hT_ hU_ (cloS_by (by rfl))) (ve_tup (va_cons ve_str (va_cons (ve_ix (vv 1) (ve_index (hu65 hr) (vv 10) (va_cons (ve_min rfl (by rfl) b_min (va_cons (vv 10) va_nil)) va_nil))) va_nil))) (lam_cons (LamOk.here (lam0 (k := 6) (cloS_by (by rfl)) (fun _ => cloB_all rfl rfl fun _ _ _ _ _ _ us h => by match us, h with | [], _ => rfl) (fun _ _ _ _ _ _ _ hr2 => (ve_callK0 o_kindest_steady.ok (hr2.mono (by decide)) (by rfl) o_kindest_steady.at_ o_kindest_steady.kp o_kindest_steady.kb passL (vk_cons (vv 0) vk_nil))))) lam_nil) (by rfl) (by rfl) (by rfl)))
    vss_nil)))))))))⟩
abbrev s_law : Stmt := topS 40
theorem sc_law : FnScope ["script", "tape", "turn", "wishes", "bad", "place", "call", "three", "told"] ["script"] (L2.defScope s_law) := ⟨rfl, rfl, rfl, by decide +kernel, rfl, by decide +kernel, by decide +kernel⟩
def t_law (S : Option (Addr × List Int)) (F__law_bent_wishes F__law_like F__law_many F__law_right F__law_take F__law_tape F__law_wishes F_all_steady F_always_alone F_cheapest_steady F_kindest_steady : FV) (n_ : Nat) (cs_ : List TC) (mk_1 : Addr → Clo) (mk_2 : Addr → Addr → Clo) (mk_3 : Addr → Addr → Clo) (mk_4 : Addr → Addr → Clo) : TVs :=
  (sSeq (sAsg (vCall F__law_tape 3 (vCons (vVar 0) (vCons (vC (.int 900)) (vCons (vC (.int 75)) vNil)))) (gN 1))
    (sLater (sSeq (sFor (iRg1 (vCons (vC (.int 6)) vNil)) (gN 2)
    (sSeq (sIf (vNot (vTest (vCall F__law_right 1 (vCons (vCall F__law_wishes 3 (vCons (vVar 1) (vCons (v2 S ixV (vTup (vCons (vC (.int 5)) (vCons (vC (.int 6)) (vCons (vC (.int 8)) vNil)))) (vCall F__law_take 2 (vCons (vVar 1) (vCons (vC (.int 3)) vNil)))) (vCons (v2 S addV (vC (.int 2)) (vCall F__law_take 2 (vCons (vVar 1) (vCons (vC (.int 3)) vNil)))) vNil)))) vNil))))
    (sSeq (sRet (vC (.bl false)))
    sNext)
    sNext)
    sNext))
    (sLater (sSeq (sAsg (vCall F__law_many 1 (vCons (vVar 1) vNil)) (gN 3))
    (sLater (sSeq (sIf (vOr (vNot (vTest (vCall F__law_right 1 (vCons (vVar 3) vNil)))) (vTest (v2 S ltV (vCB S lenV (vCons (vCall F_all_steady 1 (vCons (vVar 3) vNil)) vNil)) (v2 S (intsV CDivN Int.fdiv) (vCB S lenV (vCons (vVar 3) vNil)) (vC (.int 2))))))
    (sSeq (sRet (vC (.bl false)))
    sNext)
    sNext)
    (sLater (sSeq (sFor (iRg1 (vCons (vC (.int 5)) vNil)) (gN 2)
    (sSeq (sAsg (vCall F__law_bent_wishes 2 (vCons (vVar 1) (vCons (vVar 3) vNil))) (gTp (gCn (gN 4) (gCn (gN 5) gNl))))
    (sLater (sSeq (sFor (iSq S (vTup (vCons (vLam mk_1) (vCons (vLamD mk_2) (vCons (vLamD mk_3) (vCons (vLamD mk_4) vNil)))))) (gN 6)
    (sSeq (sIf (vNot (vTest (vIs n_ cs_ [((fun _ c_ => mk_1 c_), ([] : List U), (vCall F_all_steady 1 (vCons (vVar 4) vNil))), (mk_2, [U.int 0], (vCall F_always_alone 1 (vCons (vVar 4) vNil))), (mk_3, [U.int 0], (vCall F_cheapest_steady 1 (vCons (vVar 4) vNil))), (mk_4, [U.int 0], (vCall F_kindest_steady 1 (vCons (vVar 4) vNil)))] (fun Γ => Γ) (vVar 6) (vTup (vCons (vC (.str "BadList")) (vCons (vVar 5) vNil))))))
    (sSeq (sRet (vC (.bl false)))
    sNext)
    sNext)
    sNext))
    sNext))))
    (sLater (sSeq (sAsg (vTup (vCons (vTup (vCons (vC (.int 1)) (vCons (vC (.int 2)) (vCons (vC (.int 3)) vNil)))) (vCons (vTup (vCons (vC (.int 2)) (vCons (vC (.int 0)) (vCons (vC (.int 3)) vNil)))) (vCons (vTup (vCons (vC (.int 0)) (vCons (vC (.int 1)) (vCons (vC (.int 3)) vNil)))) (vCons (vTup (vCons (vC (.int 0)) (vCons (vC (.int 1)) (vCons (vC (.int 2)) vNil)))) vNil))))) (gN 7))
    (sLater (sSeq (sAsg (vTup (vCons (vCall F_all_steady 1 (vCons (vVar 7) vNil)) (vCons (vCall F_all_steady 1 (vCons (vTup vNil) vNil)) (vCons (vCall F_always_alone 1 (vCons (vTup (vCons (vTup vNil) (vCons (vTup (vCons (vC (.int 2)) vNil)) (vCons (vTup (vCons (vC (.int 1)) vNil)) vNil)))) vNil)) (vCons (vCall F_all_steady 1 (vCons (vTup (vCons (vTup (vCons (vC (.int 1)) (vCons (vC (.int 2)) vNil))) (vCons (vTup (vCons (vC (.int 2)) (vCons (vC (.int 0)) vNil))) (vCons (vTup (vCons (vC (.int 0)) (vCons (vC (.int 1)) vNil))) vNil)))) vNil)) vNil))))) (gN 8))
    (sLater (sSeq (sRet (vCall F__law_like 2 (vCons (vVar 8) (vCons (vTup (vCons (vTup vNil) (vCons (vTup (vCons (vTup vNil) vNil)) (vCons (vTup (vCons (vC (.int 0)) vNil)) (vCons (vTup vNil) vNil))))) vNil))))
    sNext)))))))))))))))
theorem v_law {f__law_bent_wishes : Addr} {fd__law_bent_wishes : FuncData} {F__law_bent_wishes : FV} (o__law_bent_wishes : DOk P w K mg base Pd 2 "_law_bent_wishes" f__law_bent_wishes fd__law_bent_wishes ["tape", "wishes"] F__law_bent_wishes) {f__law_like : Addr} {fd__law_like : FuncData} {F__law_like : FV} (o__law_like : DOk P w K mg base Pd 4 "_law_like" f__law_like fd__law_like ["told", "due"] F__law_like) {f__law_many : Addr} {fd__law_many : FuncData} {F__law_many : FV} (o__law_many : DOk P w K mg base Pd 2 "_law_many" f__law_many fd__law_many ["tape"] F__law_many) {f__law_right : Addr} {fd__law_right : FuncData} {F__law_right : FV} (o__law_right : DOk P w K mg base Pd 10 "_law_right" f__law_right fd__law_right ["wishes"] F__law_right) {f__law_take : Addr} {fd__law_take : FuncData} {F__law_take : FV} (o__law_take : DOk P w K mg base Pd 1 "_law_take" f__law_take fd__law_take ["tape", "limit"] F__law_take) {f__law_tape : Addr} {fd__law_tape : FuncData} {F__law_tape : FV} (o__law_tape : DOk P w K mg base Pd 1 "_law_tape" f__law_tape fd__law_tape ["script", "many", "salt"] F__law_tape) {f__law_wishes : Addr} {fd__law_wishes : FuncData} {F__law_wishes : FV} (o__law_wishes : DOk P w K mg base Pd 3 "_law_wishes" f__law_wishes fd__law_wishes ["tape", "most", "share"] F__law_wishes) {f_all_steady : Addr} {fd_all_steady : FuncData} {F_all_steady : FV} (o_all_steady : DOk P w K mg base Pd 5 "all_steady" f_all_steady fd_all_steady ["wishes"] F_all_steady) {f_always_alone : Addr} {fd_always_alone : FuncData} {F_always_alone : FV} (o_always_alone : DOk P w K mg base Pd 6 "always_alone" f_always_alone fd_always_alone ["wishes"] F_always_alone) {f_cheapest_steady : Addr} {fd_cheapest_steady : FuncData} {F_cheapest_steady : FV} (o_cheapest_steady : DOk P w K mg base Pd 6 "cheapest_steady" f_cheapest_steady fd_cheapest_steady ["wishes"] F_cheapest_steady) {f_kindest_steady : Addr} {fd_kindest_steady : FuncData} {F_kindest_steady : FV} (o_kindest_steady : DOk P w K mg base Pd 6 "kindest_steady" f_kindest_steady fd_kindest_steady ["wishes"] F_kindest_steady) (b_len : mg "len" = none) (b_range : mg "range" = none) {n_ : Nat} {cs_ : List TC} (o__law_is : IsOk P w K mg base Pd 7 n_ cs_) {cA Pa : Addr} (tb_ : TabB base mg cA Pa) (hT_ : (Pa, ("law.<locals>." : Str) ++ "<lambda>") ∈ Pd.T) (hU_ : ∀ p ∈ Pd.T, p.1 = Pa → p.2 = ("law.<locals>." : Str) ++ "<lambda>") (cdv : Value) (hcd_ : cdv = .ref cA) (f : Addr) (A : Around) (outer : List Env) (s : Shared) (H : Hp) (E : XK) (hr : Room 10 (A.deeper (envOfC "law" (L2.defScope s_law) s.heap.objs.size f cdv))) :
    ∃ mk_1 : Addr → Clo, ∃ mk_2 : Addr → Addr → Clo, ∃ mk_3 : Addr → Addr → Clo, ∃ mk_4 : Addr → Addr → Clo, VSs (cxV P w K mg base ["script", "tape", "turn", "wishes", "bad", "place", "call", "three", "told"] "law" (L2.defScope s_law) f cdv A outer s H E) Pd E (L2.defBody s_law) (t_law Pd.S F__law_bent_wishes F__law_like F__law_many F__law_right F__law_take F__law_tape F__law_wishes F_all_steady F_always_alone F_cheapest_steady F_kindest_steady n_ cs_ mk_1 mk_2 mk_3 mk_4) :=
  ⟨_, _, _, _, (vss_cons (vs_set (i := 1) sc_law.nd rfl (.inl rfl) (ve_call o__law_tape.ok (hr.mono (by decide)) (by rfl) o__law_tape.at_ o__law_tape.kp o__law_tape.b passC (va_cons (vv 0) (va_cons ve_int (va_cons ve_int va_nil)))))
    (vss_cons (vs_for ownC rfl (vi_range1 (by rfl) b_range (va_cons ve_int va_nil)) (vg_name (i := 2) sc_law.nd rfl (.inl rfl))
    (vss_cons (vs_if (vt_not (vt_val (ve_call o__law_right.ok (hr.mono (by decide)) (by rfl) o__law_right.at_ o__law_right.kp o__law_right.b passC (va_cons (ve_call o__law_wishes.ok (hr.mono (by decide)) (by rfl) o__law_wishes.at_ o__law_wishes.kp o__law_wishes.b passC (va_cons (vv 1) (va_cons (ve_ix (ve_tup (va_cons ve_int (va_cons ve_int (va_cons ve_int va_nil)))) (ve_call o__law_take.ok (hr.mono (by decide)) (by rfl) o__law_take.at_ o__law_take.kp o__law_take.b passC (va_cons (vv 1) (va_cons ve_int va_nil)))) (va_cons (ve_add ve_int (ve_call o__law_take.ok (hr.mono (by decide)) (by rfl) o__law_take.at_ o__law_take.kp o__law_take.b passC (va_cons (vv 1) (va_cons ve_int va_nil)))) va_nil)))) va_nil))))
    (vss_cons (vs_ret ve_bl)
    vss_nil)
    vss_nil)
    vss_nil))
    (vss_cons (vs_set (i := 3) sc_law.nd rfl (.inl rfl) (ve_call o__law_many.ok (hr.mono (by decide)) (by rfl) o__law_many.at_ o__law_many.kp o__law_many.b passC (va_cons (vv 1) va_nil)))
    (vss_cons (vs_if (vt_w (vw_or (vt_not (vt_val (ve_call o__law_right.ok (hr.mono (by decide)) (by rfl) o__law_right.at_ o__law_right.kp o__law_right.b passC (va_cons (vv 3) va_nil)))) (vw_or1 (vt_cmp c_lt (ve_len (by rfl) b_len (va_cons (ve_call o_all_steady.ok (hr.mono (by decide)) (by rfl) o_all_steady.at_ o_all_steady.kp o_all_steady.b passC (va_cons (vv 3) va_nil)) va_nil)) (ve_fdiv (ve_len (by rfl) b_len (va_cons (vv 3) va_nil)) ve_int)))))
    (vss_cons (vs_ret ve_bl)
    vss_nil)
    vss_nil)
    (vss_cons (vs_for ownC rfl (vi_range1 (by rfl) b_range (va_cons ve_int va_nil)) (vg_name (i := 2) sc_law.nd rfl (.inl rfl))
    (vss_cons (vs_asg (ve_call o__law_bent_wishes.ok (hr.mono (by decide)) (by rfl) o__law_bent_wishes.at_ o__law_bent_wishes.kp o__law_bent_wishes.b passC (va_cons (vv 1) (va_cons (vv 3) va_nil))) (vg_tup 2 rfl (vgs_cons (vg_name (i := 4) sc_law.nd rfl (.inr rfl)) (vgs_cons (vg_name (i := 5) sc_law.nd rfl (.inl rfl)) vgs_nil)) (gCn_len (gCn_len gNl_len))))
    (vss_cons (vs_for ownC rfl (vi_sq (ve_tup (va_cons (ve_lam (ps := []) tb_ hcd_ hT_ hU_ (cloS_by (by rfl))) (va_cons (ve_lamD (ps := ["x"]) tb_ hcd_ hT_ hU_ (cloS_by (by rfl))) (va_cons (ve_lamD (ps := ["y"]) tb_ hcd_ hT_ hU_ (cloS_by (by rfl))) (va_cons (ve_lamD (ps := ["z"]) tb_ hcd_ hT_ hU_ (cloS_by (by rfl))) va_nil)))))) (vg_name (i := 6) sc_law.nd rfl (.inl rfl))
    (vss_cons (vs_if (vt_not (vt_val (o__law_is.run rfl rfl rfl rfl rfl (hr.mono (by decide)) (by rfl) passC (vv 6) (ve_tup (va_cons ve_str (va_cons (vv 5) va_nil))) (lam_cons (LamOk.here (lam0 (k := 6) (cloS_by (by rfl)) (fun _ => cloB_all rfl rfl fun _ _ _ _ _ _ us h => by match us, h with | [], _ => rfl) (fun _ _ _ _ _ _ _ hr2 => (ve_call o_all_steady.ok (hr2.mono (by decide)) (by rfl) o_all_steady.at_ o_all_steady.kp o_all_steady.b passL (va_cons (vv 4) va_nil))))) (lam_cons (LamOk.here (lamD (k := 6) (x := "x") (cloS_by (by rfl)) (fun _ _ => cloB_d1 rfl fun _ _ _ => ⟨_, rfl, fun _ => rfl⟩) (fun _ _ _ _ _ _ _ hr2 => (ve_call o_always_alone.ok (hr2.mono (by decide)) (by rfl) o_always_alone.at_ o_always_alone.kp o_always_alone.b passL (va_cons (vv 4) va_nil))))) (lam_cons (LamOk.here (lamD (k := 6) (x := "y") (cloS_by (by rfl)) (fun _ _ => cloB_d1 rfl fun _ _ _ => ⟨_, rfl, fun _ => rfl⟩) (fun _ _ _ _ _ _ _ hr2 => (ve_call o_cheapest_steady.ok (hr2.mono (by decide)) (by rfl) o_cheapest_steady.at_ o_cheapest_steady.kp o_cheapest_steady.b passL (va_cons (vv 4) va_nil))))) (lam_cons (LamOk.here (lamD (k := 6) (x := "z") (cloS_by (by rfl)) (fun _ _ => cloB_d1 rfl fun _ _ _ => ⟨_, rfl, fun _ => rfl⟩) (fun _ _ _ _ _ _ _ hr2 => (ve_call o_kindest_steady.ok (hr2.mono (by decide)) (by rfl) o_kindest_steady.at_ o_kindest_steady.kp o_kindest_steady.b passL (va_cons (vv 4) va_nil))))) lam_nil)))) (by rfl) (by rfl) (by rfl))))
    (vss_cons (vs_ret ve_bl)
    vss_nil)
    vss_nil)
    vss_nil))
    vss_nil)))
    (vss_cons (vs_set (i := 7) sc_law.nd rfl (.inl rfl) (ve_tup (va_cons (ve_tup (va_cons ve_int (va_cons ve_int (va_cons ve_int va_nil)))) (va_cons (ve_tup (va_cons ve_int (va_cons ve_int (va_cons ve_int va_nil)))) (va_cons (ve_tup (va_cons ve_int (va_cons ve_int (va_cons ve_int va_nil)))) (va_cons (ve_tup (va_cons ve_int (va_cons ve_int (va_cons ve_int va_nil)))) va_nil))))))
    (vss_cons (vs_set (i := 8) sc_law.nd rfl (.inl rfl) (ve_tup (va_cons (ve_call o_all_steady.ok (hr.mono (by decide)) (by rfl) o_all_steady.at_ o_all_steady.kp o_all_steady.b passC (va_cons (vv 7) va_nil)) (va_cons (ve_call o_all_steady.ok (hr.mono (by decide)) (by rfl) o_all_steady.at_ o_all_steady.kp o_all_steady.b passC (va_cons (ve_tup va_nil) va_nil)) (va_cons (ve_call o_always_alone.ok (hr.mono (by decide)) (by rfl) o_always_alone.at_ o_always_alone.kp o_always_alone.b passC (va_cons (ve_tup (va_cons (ve_tup va_nil) (va_cons (ve_tup (va_cons ve_int va_nil)) (va_cons (ve_tup (va_cons ve_int va_nil)) va_nil)))) va_nil)) (va_cons (ve_call o_all_steady.ok (hr.mono (by decide)) (by rfl) o_all_steady.at_ o_all_steady.kp o_all_steady.b passC (va_cons (ve_tup (va_cons (ve_tup (va_cons ve_int (va_cons ve_int va_nil))) (va_cons (ve_tup (va_cons ve_int (va_cons ve_int va_nil))) (va_cons (ve_tup (va_cons ve_int (va_cons ve_int va_nil))) va_nil)))) va_nil)) va_nil))))))
    (vss_cons (vs_ret (ve_call o__law_like.ok (hr.mono (by decide)) (by rfl) o__law_like.at_ o__law_like.kp o__law_like.b passC (va_cons (vv 8) (va_cons (ve_tup (va_cons (ve_tup va_nil) (va_cons (ve_tup (va_cons (ve_tup va_nil) va_nil)) (va_cons (ve_tup (va_cons ve_int va_nil)) (va_cons (ve_tup va_nil) va_nil))))) va_nil))))
    vss_nil))))))))⟩
end
end K75

-- part B19
set_option Elab.async false
set_option linter.all false
set_option maxRecDepth 100000
set_option maxHeartbeats 1000000
/-! Plain laws, part 19: _law_like. -/
namespace K75
open PySem PySem.Spec PyProof.Rows L2 VL LamX
theorem kb_tt : kitB "tuple" "tuple" = some true := by decide +kernel
theorem kb_nt : kitB "NoneType" "tuple" = some false := by decide +kernel
theorem kb_bt : kitB "bool" "tuple" = some false := by decide +kernel
theorem kb_it : kitB "int" "tuple" = some false := by decide +kernel
theorem kb_st : kitB "str" "tuple" = some false := by decide +kernel
theorem kb_tb : kitB "tuple" "bool" = some false := by decide +kernel
theorem kb_nb : kitB "NoneType" "bool" = some false := by decide +kernel
theorem kb_bb : kitB "bool" "bool" = some true := by decide +kernel
theorem kb_ib : kitB "int" "bool" = some false := by decide +kernel
theorem kb_sb : kitB "str" "bool" = some false := by decide +kernel
theorem kb_ti : kitB "tuple" "int" = some false := by decide +kernel
theorem kb_ni : kitB "NoneType" "int" = some false := by decide +kernel
theorem kb_bi : kitB "bool" "int" = some true := by decide +kernel
theorem kb_ii : kitB "int" "int" = some true := by decide +kernel
theorem kb_si : kitB "str" "int" = some false := by decide +kernel
theorem kb_ts : kitB "tuple" "str" = some false := by decide +kernel
theorem kb_ns : kitB "NoneType" "str" = some false := by decide +kernel
theorem kb_bs : kitB "bool" "str" = some false := by decide +kernel
theorem kb_is : kitB "int" "str" = some false := by decide +kernel
theorem kb_ss : kitB "str" "str" = some true := by decide +kernel
theorem eqR_pure {S : SS} {vh : VH} {x y : U} {k : Bool → Prop} (hx : asL S vh x = none) (hy : asL S vh y = none) (h1 : okD 9 x = true) (h2 : okD 9 y = true) (h : k (VL.eqU x y)) : eqR S vh x y k := by
  unfold eqR
  rw [hx, hy]
  exact ⟨h1, h2, h⟩
theorem f_like {n : Nat} {a b : U} {vh : VH} {R : U → VH → Prop} {Z : XV} (h1 : okD 9 a = true) (h2 : okD n b = true) (r : R (.bl (likeU a b)) vh) : FLike n [a, b] vh R Z := ⟨a, b, rfl, h1, h2, r⟩
theorem okD_up : ∀ {n m : Nat} {u : U}, n ≤ m → okD n u = true → okD m u = true := by
  have key : ∀ (n : Nat), (∀ (u : U) (m : Nat), n ≤ m → okD n u = true → okD m u = true) := by
    intro n
    induction n with
    | zero =>
      intro u m _ h
      cases u <;> simp_all [okD]
    | succ n ih =>
      intro u m hm h
      cases u <;> try (simp_all [okD]; done)
      rename_i us
      obtain ⟨m', rfl⟩ : ∃ m', m = m' + 1 := ⟨m - 1, by omega⟩
      simp only [okD] at h ⊢
      have : ∀ us : List U, okDs n us = true → okDs m' us = true := by
        intro us
        induction us with
        | nil => intro _; simp [okDs]
        | cons x us ih2 =>
          intro h
          simp only [okDs, Bool.and_eq_true] at h ⊢
          exact ⟨ih x m' (by omega) h.1, ih2 h.2⟩
      exact this us h
  intro n m u h1 h2
  exact key n u m h1 h2
theorem b_like {S : SS} {n : Nat} {G : FV} (hG : ∀ k, n = k + 1 → G = FLike k) (hn : n ≤ 9) : BodyV (FLike n) 4 2 (t__law_like S G) := by
  rintro us vh R Z hl ⟨a, b, rfl, ha, hb, r⟩
  clear hl
  have hb9 := okD_up (m := 9) hn hb
  cases b with
  | ref _ => simp [okD] at hb
  | tupw _ => simp [okD] at hb
  | sta _ => simp [okD] at hb
  | non =>
    simp [t__law_like, ltV, leV, gtV, geV, sumV, maxV, minV, allV, anyV, sortV, sNext, sSeq, sNever, sBreak, sDrop, sRet, sRetN, sIf, gN, gNl, gCn, gTp, gSb, sAsg, sPar, vVar, vC, vNil, vCons, vTup, vLst, v2, addV, intsV, ints0V, mulV, vNeg, eqV', neV', inV', isV, VL.isNon, vTest, vChain, vAnd, vOr, vNot, vAndV, vOrV, vNotV, vIf, ixV, vNo, vPart, vSl, sliceV, vLc_eq, vDc_eq, sFor_eq, sWhile_eq, iSq, iRg1, iRg2, iEn, iZp, vCB, lenV, listV, tupleV, intV1, absV1, ofInts, ofBls, two, vIsi, vM, vM0, appendV, extendV, popV, popAtV, vIndex, vDnew, vCall, sRaise, vYes, vRev, getV, startV, wipeV, tyU, kb_nt]
    cases a <;> first | (simp [okD] at ha; done) | (simp [VL.isNon, likeU] at r ⊢; exact RD.of r (.refl _))
  | bl c =>
    simp [t__law_like, ltV, leV, gtV, geV, sumV, maxV, minV, allV, anyV, sortV, sNext, sSeq, sNever, sBreak, sDrop, sRet, sRetN, sIf, gN, gNl, gCn, gTp, gSb, sAsg, sPar, vVar, vC, vNil, vCons, vTup, vLst, v2, addV, intsV, ints0V, mulV, vNeg, eqV', neV', inV', isV, VL.isNon, vTest, vChain, vAnd, vOr, vNot, vAndV, vOrV, vNotV, vIf, ixV, vNo, vPart, vSl, sliceV, vLc_eq, vDc_eq, sFor_eq, sWhile_eq, iSq, iRg1, iRg2, iEn, iZp, vCB, lenV, listV, tupleV, intV1, absV1, ofInts, ofBls, two, vIsi, vM, vM0, appendV, extendV, popV, popAtV, vIndex, vDnew, vCall, sRaise, vYes, vRev, getV, startV, wipeV, tyU, kb_bt, kb_bb]
    cases a <;> first | (simp [okD] at ha; done) | skip
    · simp [kb_nb, likeU] at r ⊢; exact RD.of r (.refl _)
    · simp [kb_bb, likeU] at r ⊢; exact eqR_pure rfl rfl ha hb9 (RD.of r (.refl _))
    · simp [kb_ib, likeU] at r ⊢; exact RD.of r (.refl _)
    · simp [kb_sb, likeU] at r ⊢; exact RD.of r (.refl _)
    · simp [kb_tb, likeU] at r ⊢; exact RD.of r (.refl _)
  | int c =>
    simp [t__law_like, ltV, leV, gtV, geV, sumV, maxV, minV, allV, anyV, sortV, sNext, sSeq, sNever, sBreak, sDrop, sRet, sRetN, sIf, gN, gNl, gCn, gTp, gSb, sAsg, sPar, vVar, vC, vNil, vCons, vTup, vLst, v2, addV, intsV, ints0V, mulV, vNeg, eqV', neV', inV', isV, VL.isNon, vTest, vChain, vAnd, vOr, vNot, vAndV, vOrV, vNotV, vIf, ixV, vNo, vPart, vSl, sliceV, vLc_eq, vDc_eq, sFor_eq, sWhile_eq, iSq, iRg1, iRg2, iEn, iZp, vCB, lenV, listV, tupleV, intV1, absV1, ofInts, ofBls, two, vIsi, vM, vM0, appendV, extendV, popV, popAtV, vIndex, vDnew, vCall, sRaise, vYes, vRev, getV, startV, wipeV, tyU, kb_it, kb_ib, kb_ii]
    cases a <;> first | (simp [okD] at ha; done) | skip
    · simp [kb_ni, likeU] at r ⊢; exact RD.of r (.refl _)
    · simp [kb_bi, kb_bb, likeU] at r ⊢; exact RD.of r (.refl _)
    · simp [kb_ii, kb_ib, likeU] at r ⊢; exact RD.of r (.refl _)
    · simp [kb_si, likeU] at r ⊢; exact RD.of r (.refl _)
    · simp [kb_ti, likeU] at r ⊢; exact RD.of r (.refl _)
  | str c =>
    simp [t__law_like, ltV, leV, gtV, geV, sumV, maxV, minV, allV, anyV, sortV, sNext, sSeq, sNever, sBreak, sDrop, sRet, sRetN, sIf, gN, gNl, gCn, gTp, gSb, sAsg, sPar, vVar, vC, vNil, vCons, vTup, vLst, v2, addV, intsV, ints0V, mulV, vNeg, eqV', neV', inV', isV, VL.isNon, vTest, vChain, vAnd, vOr, vNot, vAndV, vOrV, vNotV, vIf, ixV, vNo, vPart, vSl, sliceV, vLc_eq, vDc_eq, sFor_eq, sWhile_eq, iSq, iRg1, iRg2, iEn, iZp, vCB, lenV, listV, tupleV, intV1, absV1, ofInts, ofBls, two, vIsi, vM, vM0, appendV, extendV, popV, popAtV, vIndex, vDnew, vCall, sRaise, vYes, vRev, getV, startV, wipeV, tyU, kb_st, kb_sb, kb_si]
    cases a <;> first | (simp [okD] at ha; done) | skip
    · simp [kb_ns, likeU] at r ⊢; exact RD.of r (.refl _)
    · simp [kb_bs, likeU] at r ⊢; exact RD.of r (.refl _)
    · simp [kb_is, likeU] at r ⊢; exact RD.of r (.refl _)
    · simp [kb_ss, likeU] at r ⊢; exact eqR_pure rfl rfl ha hb9 (RD.of r (.refl _))
    · simp [kb_ts, likeU] at r ⊢; exact RD.of r (.refl _)
  | tup ds =>
    cases n with
    | zero => simp [okD] at hb
    | succ k =>
      have hG := hG k rfl
      subst hG
      simp [t__law_like, ltV, leV, gtV, geV, sumV, maxV, minV, allV, anyV, sortV, sNext, sSeq, sNever, sBreak, sDrop, sRet, sRetN, sIf, gN, gNl, gCn, gTp, gSb, sAsg, sPar, vVar, vC, vNil, vCons, vTup, vLst, v2, addV, intsV, ints0V, mulV, vNeg, eqV', neV', inV', isV, VL.isNon, vTest, vChain, vAnd, vOr, vNot, vAndV, vOrV, vNotV, vIf, ixV, vNo, vPart, vSl, sliceV, vLc_eq, vDc_eq, sFor_eq, sWhile_eq, iSq, iRg1, iRg2, iEn, iZp, vCB, lenV, listV, tupleV, intV1, absV1, ofInts, ofBls, two, vIsi, vM, vM0, appendV, extendV, popV, popAtV, vIndex, vDnew, vCall, sRaise, vYes, vRev, getV, startV, wipeV, tyU, kb_tt]
      cases a <;> first | (simp [okD] at ha; done) | skip
      · simp [kb_nt, likeU] at r ⊢; exact RD.of r (.refl _)
      · simp [kb_bt, likeU] at r ⊢; exact RD.of r (.refl _)
      · simp [kb_it, likeU] at r ⊢; exact RD.of r (.refl _)
      · simp [kb_st, likeU] at r ⊢; exact RD.of r (.refl _)
      rename_i ts
      have ha : okDs 8 ts = true := ha
      have hb : okDs k ds = true := hb
      have hlen : ∀ (ts ds : List U), likeUs ts ds = true → ts.length = ds.length := by
        intro ts
        induction ts with
        | nil => intro ds h; cases ds <;> simp_all [likeUs]
        | cons t ts ih =>
          intro ds h
          cases ds with
          | nil => simp [likeUs] at h
          | cons d ds => simp only [likeUs, Bool.and_eq_true] at h; simp [ih ds h.2]
      simp only [likeU] at r
      simp [kb_tt]
      by_cases hl : ts.length = ds.length
      · simp [hl]
        refine ForB.of (fun l Γ vh' => vh' = vh ∧ (∃ u v, Γ = [some (.tup ts), some (.tup ds), u, v]) ∧ ∃ ts' ds', l = zipU ts' ds' ∧ ts'.length = ds'.length ∧ okDs 8 ts' = true ∧ okDs k ds' = true ∧ likeUs ts ds = likeUs ts' ds') ⟨rfl, ⟨_, _, rfl⟩, ts, ds, rfl, hl, ha, hb, rfl⟩ (fun _ _ _ _ => trivial) (fun Γ' vh' ⟨e1, ⟨u, v, e2⟩, ts', ds', e3, e4, _, _, e5⟩ => ?_) fun w ws Γ' vh' _ ⟨e1, ⟨u, v, e2⟩, ts', ds', e3, e4, o1, o2, e5⟩ => ?_
        · subst e1 e2
          have h0 := congrArg List.length e3
          rw [zipU_len] at h0
          have : ts' = [] := List.eq_nil_of_length_eq_zero (by simp at h0; omega)
          subst this
          have : ds' = [] := List.eq_nil_of_length_eq_zero e4.symm
          subst this
          simp [ltV, leV, gtV, geV, sumV, maxV, minV, allV, anyV, sortV, sNext, sSeq, sNever, sBreak, sDrop, sRet, sRetN, sIf, gN, gNl, gCn, gTp, gSb, sAsg, sPar, vVar, vC, vNil, vCons, vTup, vLst, v2, addV, intsV, ints0V, mulV, vNeg, eqV', neV', inV', isV, VL.isNon, vTest, vChain, vAnd, vOr, vNot, vAndV, vOrV, vNotV, vIf, ixV, vNo, vPart, vSl, sliceV, vLc_eq, vDc_eq, sFor_eq, sWhile_eq, iSq, iRg1, iRg2, iEn, iZp, vCB, lenV, listV, tupleV, intV1, absV1, ofInts, ofBls, two, vIsi, vM, vM0, appendV, extendV, popV, popAtV, vIndex, vDnew, vCall, sRaise, vYes, vRev, getV, startV, wipeV]
          rw [e5] at r
          exact RD.of r (.refl _)
        · subst e1 e2
          cases ts' with
          | nil => simp [zipU] at e3
          | cons t ts' =>
            cases ds' with
            | nil => simp at e4
            | cons d ds' =>
              simp only [okDs, Bool.and_eq_true] at o1 o2
              have e3 : w = .tupw [t, d] ∧ ws = zipU ts' ds' := by simpa [zipU] using e3
              obtain ⟨rfl, rfl⟩ := e3
              simp [ltV, leV, gtV, geV, sumV, maxV, minV, allV, anyV, sortV, sNext, sSeq, sNever, sBreak, sDrop, sRet, sRetN, sIf, gN, gNl, gCn, gTp, gSb, sAsg, sPar, vVar, vC, vNil, vCons, vTup, vLst, v2, addV, intsV, ints0V, mulV, vNeg, eqV', neV', inV', isV, VL.isNon, vTest, vChain, vAnd, vOr, vNot, vAndV, vOrV, vNotV, vIf, ixV, vNo, vPart, vSl, sliceV, vLc_eq, vDc_eq, sFor_eq, sWhile_eq, iSq, iRg1, iRg2, iEn, iZp, vCB, lenV, listV, tupleV, intV1, absV1, ofInts, ofBls, two, vIsi, vM, vM0, appendV, extendV, popV, popAtV, vIndex, vDnew, vCall, sRaise, vYes, vRev, getV, startV, wipeV]
              refine f_like (okD_up (by omega) o1.1) o2.1 ?_
              simp only [likeUs] at e5
              cases hc : likeU t d with
              | true =>
                rw [hc, Bool.true_and] at e5
                simp
                exact ⟨ts', ds', rfl, by simpa using e4, o1.2, o2.2, e5⟩
              | false =>
                rw [hc, Bool.false_and] at e5
                rw [e5] at r
                simp
                exact RD.of r (.refl _)
      · have : likeUs ts ds = false := by
          cases h : likeUs ts ds with
          | false => rfl
          | true => exact absurd (hlen ts ds h) hl
        rw [this] at r
        have hl' : ¬ ((ts.length : Int) = ds.length) := by omega
        simp [hl', hl]
        exact RD.of r (.refl _)
end K75

-- part V16
set_option Elab.async false
set_option linter.all false
set_option maxRecDepth 100000
/-! Layer V, part 16: how calls of _law_is are answered. -/
namespace VL
open PySem PySem.Spec PyProof.Rows L2 LamX
mutual
theorem likeU_refl : ∀ {n : Nat} {u : U}, okD n u = true → likeU u u = true
  | _, .non, _ => by simp [likeU]
  | _, .bl _, _ => by simp [likeU]
  | _, .int _, _ => by simp [likeU]
  | _, .str _, _ => by simp [likeU]
  | 0, .tup _, h => by simp [okD] at h
  | n + 1, .tup us, h => by simp only [likeU]; exact likeUs_refl (n := n) (by simpa [okD] using h)
  | _, .ref _, h => by simp [okD] at h
  | _, .tupw _, h => by simp [okD] at h
  | _, .sta _, h => by simp [okD] at h
theorem likeUs_refl : ∀ {n : Nat} {us : List U}, okDs n us = true → likeUs us us = true
  | _, [], _ => by simp [likeUs]
  | n, u :: us, h => by
    have h : okD n u = true ∧ okDs n us = true := by simpa [okDs] using h
    simp only [likeUs, likeU_refl h.1, likeUs_refl h.2, Bool.and_true]
end
theorem okD_le : ∀ {n m : Nat} {u : U}, n ≤ m → okD n u = true → okD m u = true := by
  have key : ∀ (n : Nat), (∀ (u : U) (m : Nat), n ≤ m → okD n u = true → okD m u = true) := by
    intro n
    induction n with
    | zero =>
      intro u m _ h
      cases u <;> simp_all [okD]
    | succ n ih =>
      intro u m hm h
      cases u <;> try (simp_all [okD]; done)
      rename_i us
      obtain ⟨m', rfl⟩ : ∃ m', m = m' + 1 := ⟨m - 1, by omega⟩
      simp only [okD] at h ⊢
      have : ∀ us : List U, okDs n us = true → okDs m' us = true := by
        intro us
        induction us with
        | nil => intro _; simp [okDs]
        | cons x us ih2 =>
          intro h
          simp only [okDs, Bool.and_eq_true] at h ⊢
          exact ⟨ih x m' (by omega) h.1, ih2 h.2⟩
      exact this us h
  intro n m u h1 h2
  exact key n u m h1 h2
/-- a thunk hands back what is due -/
theorem isK_val {n : Nat} {cs : List TC} {f : Addr} {F : Clo} {Γ : EV} {us : List U} {tb : TV} {du : U} {vh : VH} {R : U → VH → Prop} (hn : n ≤ 9) (hf : vh f = some (cloF f F)) (od : okD n du = true)
    (h : ∀ (K : U → VH → Prop) (Zx : XV), (∀ vh1, SubH vh vh1 → K du vh1) → tb (Γ ++ us.map some) vh K Zx) (r : ∀ vh1, SubH vh vh1 → RD R (.bl true) vh1) : isK n cs (tkOf f F Γ us tb) (.tup [.str "is", du]) vh R := by
  refine ⟨"is", du, rfl, by simp only [okD, PyData.canLay0]; decide +kernel, od, hf, h _ _ fun vh1 s => ⟨okD_le hn od, ?_⟩⟩
  rw [likeU_refl od]
  simpa using r vh1 s
/-- a thunk raises what is due -/
theorem isK_exc {n : Nat} {cs : List TC} {c : TC} {f : Addr} {F : Clo} {Γ : EV} {us : List U} {tb : TV} {du : U} {vh : VH} {R : U → VH → Prop} (hn : n ≤ 9) (hf : vh f = some (cloF f F)) (od : okD n du = true) (ol : okD 9 (.str c.lab) = true) (hc : cs.find? (fun d => decide (d.C = c.C)) = some c)
    (h : ∀ (K : U → VH → Prop) (Zx : XV), (∀ vh1, SubH vh vh1 → Zx c.C c.fld du vh1) → tb (Γ ++ us.map some) vh K Zx) (r : ∀ vh1, SubH vh vh1 → RD R (.bl true) vh1) : isK n cs (tkOf f F Γ us tb) (.tup [.str c.lab, du]) vh R := by
  refine ⟨c.lab, du, rfl, ol, od, hf, h _ _ fun vh1 s => ⟨c, hc, rfl, okD_le hn od, ?_⟩⟩
  rw [likeU_refl od]
  simpa using r vh1 s
/-- _law_is of a lambda that stands there, which hands back what is due -/
theorem vIs_val {n : Nat} {cs : List TC} {ls : List LamE} {mk : Addr → Clo} {tb tdu : TV} {Γ : EV} {vh : VH} {R : U → VH → Prop} {Z : XV} {du : U} (hn : n ≤ 9) (hm : ((fun _ c => mk c), ([] : List U), tb) ∈ ls) (od : okD n du = true)
    (hdu : ∀ vh1, SubH vh vh1 → ∀ (K : U → VH → Prop), (∀ vh2, SubH vh1 vh2 → K du vh2) → tdu Γ vh1 K Z)
    (h : ∀ vh1, SubH vh vh1 → ∀ (K : U → VH → Prop) (Zx : XV), (∀ vh2, SubH vh1 vh2 → K du vh2) → tb Γ vh1 K Zx) (r : ∀ vh1, SubH vh vh1 → R (.bl true) vh1) :
    vIs n cs ls (fun Γ => Γ) (vLam mk) (vTup (vCons (vC (.str "is")) (vCons tdu vNil))) Γ vh R Z := by
  intro f c' hf
  have s0 : SubH vh (vput vh f (cloF f (mk c'))) := (SubH.refl _).put hf
  refine hdu _ s0 _ fun vh2 s2 => ⟨?_, f, 0, c', _, hm, rfl, ?_⟩
  · show (2 : Nat) ≤ sizeLine
    decide
  · refine isK_val hn (s2 _ _ vput_same) od (fun K Zx hK => ?_) fun vh1 s => RD.of (r _ ((s0.trans s2).trans s)) (.refl _)
    have := h vh2 (s0.trans s2) K Zx hK
    simpa using this
/-- _law_is of a lambda that a name holds, which raises what is due -/
theorem vIs_exc {n i : Nat} {cs : List TC} {ls : List LamE} {G : EV → EV} {m : LamE} {c : TC} {tdu : TV} {Γ : EV} {vh : VH} {R : U → VH → Prop} {Z : XV} {du : U} {f t c' : Addr} (hn : n ≤ 9) (hi : Γ[i]? = some (some (.ref f))) (hm : m ∈ ls) (hf : vh f = some (cloF f (m.1 t c'))) (od : okD n du = true) (ol : okD 9 (.str c.lab) = true)
    (hc : cs.find? (fun d => decide (d.C = c.C)) = some c) (hdu : ∀ (K : U → VH → Prop), K du vh → tdu Γ vh K Z)
    (h : ∀ (K : U → VH → Prop) (Zx : XV), (∀ vh1, SubH vh vh1 → Zx c.C c.fld du vh1) → m.2.2 (G Γ ++ m.2.1.map some) vh K Zx) (r : ∀ vh1, SubH vh vh1 → R (.bl true) vh1) :
    vIs n cs ls G (vVar i) (vTup (vCons (vC (.str c.lab)) (vCons tdu vNil))) Γ vh R Z := by
  show getV Γ i _
  unfold getV
  rw [hi]
  refine hdu _ ⟨?_, f, t, c', m, hm, rfl, isK_exc hn hf od ol hc h fun vh1 s => RD.of (r _ s) (.refl _)⟩
  show (2 : Nat) ≤ sizeLine
  decide
end VL

-- part V17
set_option Elab.async false
set_option linter.all false
set_option maxRecDepth 100000
/-! Layer V, part 17: the ends: what a def is worth, from what the top has left. -/
namespace VL
open PySem PySem.Spec PyProof.Rows L2 LamX
/-- a def whose code object is known -/
structure FunC (K : PySem.W.Frag) (x : Str) (st : Stmt) (f : Addr) (fd : FuncData) (cA : Addr) : Prop where
  ex : ∃ (oc : Value) (od : Option Addr) (kV doc pm : Value) (an : Option Addr) (ct : Value) (osl : Array (Option Value)),
    fd = PySem.W.fnOf x x (L2.defArgs st) (L2.defBody st) (L2.defScope st) .none kV doc pm an (.ref cA) ct ∧ K.lookup f = some ⟨oc, od, .func fd, osl⟩ ∧ PySem.W.codeIn K (.ref cA) x = true
  kp : PySem.W.keepIn K (.ref f) = true
theorem FunC.fn {K : PySem.W.Frag} {x : Str} {st : Stmt} {f : Addr} {fd : FuncData} {cA : Addr} (F : FunC K x st f fd cA) : L2.Fun K x x st f fd := by
  obtain ⟨oc, od, kV, doc, pm, an, ct, osl, h⟩ := F.ex
  exact ⟨⟨oc, od, kV, doc, pm, an, .ref cA, ct, osl, h⟩, F.kp⟩
section
variable {P : Program} {w : World} {K : PySem.W.Frag} {mg : Str → Option Value} {base h : Heap} {Pd : Pk} {x : Str} {st : Stmt} {f : Addr} {fd : FuncData}
theorem def_mk {oc : Value} {od an : Option Addr} {osl : Array (Option Value)} {kV doc pm cdv ct : Value} (X : K.In h) (G : h.Ns mainGlobals mg) (a : PySem.W.nsIn K mainGlobals x = some (some (.ref f)))
    (l : K.lookup f = some ⟨oc, od, .func (PySem.W.fnOf x x (L2.defArgs st) (L2.defBody st) (L2.defScope st) .none kV doc pm an cdv ct), osl⟩) (c : PySem.W.codeIn K cdv x = true) (k : PySem.W.keepIn K (.ref f) = true) : ∃ f fd, L2.Fun K x x st f fd ∧ mg x = some (.ref f) :=
  ⟨f, _, L2.fun_mk l c k, PySem.W.mg_of X G a⟩
theorem def_mkC {oc : Value} {od an : Option Addr} {osl : Array (Option Value)} {kV doc pm ct : Value} {cA Pa : Addr} (X : K.In h) (G : h.Ns mainGlobals mg) (a : PySem.W.nsIn K mainGlobals x = some (some (.ref f)))
    (l : K.lookup f = some ⟨oc, od, .func (PySem.W.fnOf x x (L2.defArgs st) (L2.defBody st) (L2.defScope st) .none kV doc pm an (.ref cA) ct), osl⟩) (c : PySem.W.codeIn K (.ref cA) x = true) (k : PySem.W.keepIn K (.ref f) = true) : ∃ f fd, FunC K x st f fd cA ∧ mg x = some (.ref f) :=
  ⟨f, _, ⟨⟨oc, od, kV, doc, pm, an, ct, osl, rfl, l, c⟩, k⟩, PySem.W.mg_of X G a⟩
theorem defC_mk {oc : Value} {od an : Option Addr} {osl : Array (Option Value)} {kV doc pm ct : Value} {cA Pa : Addr} (X : K.In h) (G : h.Ns mainGlobals mg) (a : PySem.W.nsIn K mainGlobals x = some (some (.ref f)))
    (l : K.lookup f = some ⟨oc, od, .func (PySem.W.fnOf x x (L2.defArgs st) (L2.defBody st) (L2.defScope st) .none kV doc pm an (.ref cA) ct), osl⟩) (c : PySem.W.codeIn K (.ref cA) x = true) (k : PySem.W.keepIn K (.ref f) = true)
    {e1 : Value} {d1 : Option Addr} {vs : Array Value} {s1 : Array (Option Value)} (lc : K.lookup cA = some ⟨e1, d1, .fields vs, s1⟩) (hv : (vs[11]? : Option Value) = some (.ref Pa)) (nt : K.lookup Pa = none) : FunC K x st f (PySem.W.fnOf x x (L2.defArgs st) (L2.defBody st) (L2.defScope st) .none kV doc pm an (.ref cA) ct) cA ∧ mg x = some (.ref f) ∧ PySem.W.tabIn K x = some (cA, Pa) ∧ K.lookup Pa = none := by
  refine ⟨⟨⟨oc, od, kV, doc, pm, an, ct, osl, rfl, l, c⟩, k⟩, PySem.W.mg_of X G a, ?_, nt⟩
  unfold PySem.W.tabIn
  rw [a]
  show (match K.lookup f with | some ⟨_, _, .func fd, _⟩ => _ | _ => _) = _
  rw [l]
  show (match K.lookup cA with | some ⟨_, _, .fields vs, _⟩ => _ | _ => _) = _
  rw [lc]
  show (match (vs[11]? : Option Value) with | some (.ref P) => _ | _ => _) = _
  rw [hv]
abbrev BindsAll (x : Str) (st : Stmt) (ps : List Str) : Prop := ∀ (kV doc pm : Value) (an : Option Addr) (cdv ct : Value) (us : List Value), us.length = ps.length → bindArgs (PySem.W.fnOf x x (L2.defArgs st) (L2.defBody st) (L2.defScope st) .none kV doc pm an cdv ct) ⟨us, []⟩ = pure (ps.zip us)
abbrev BindsKw (x : Str) (st : Stmt) (ps : List Str) : Prop := ∀ (kV doc pm : Value) (an : Option Addr) (cdv ct : Value) (us : List Value), us.length = ps.length → bindArgs (PySem.W.fnOf x x (L2.defArgs st) (L2.defBody st) (L2.defScope st) .none kV doc pm an cdv ct) ⟨[], ps.zip us⟩ = pure (ps.zip us)
theorem kb_fun {ps : List Str} (F : L2.Fun K x x st f fd) (h : BindsKw x st ps) : KB0 K fd ps ps := by
  obtain ⟨oc, od, kV, doc, pm, an, cdv, ct, osl, rfl, lk, hcd⟩ := F.ex
  exact kb0_of fun ws hl => h kV doc pm an cdv ct ws hl
theorem dok_of {N ps : List Str} {k : Nat} {F : FV} (Fn : L2.Fun K x x st f fd) (m : mg x = some (.ref f)) (S : FnScope N ps (L2.defScope st)) (hb : BindsAll x st ps) (hk : BindsKw x st ps)
    (hbody : ∀ (cdv : Value) (A : Around) (outer : List Env) (s : Shared) (H : Hp) (E : XK), Room k (A.deeper (envOfC x (L2.defScope st) s.heap.objs.size f cdv)) → ∃ t, VSs (cxV P w K mg base N x (L2.defScope st) f cdv A outer s H E) Pd E (L2.defBody st) t ∧ BodyV F N.length ps.length t) :
    DOk P w K mg base Pd (k + 1) x f fd ps F := ⟨ok_of Fn S hbody, m, Fn.kp, Fn.binds hb, kb_fun Fn hk⟩
/-- the same, the code object known -/
theorem dok_ofC {N ps : List Str} {k : Nat} {F : FV} {cA : Addr} (Fn : FunC K x st f fd cA) (m : mg x = some (.ref f)) (S : FnScope N ps (L2.defScope st)) (hb : BindsAll x st ps) (hk : BindsKw x st ps)
    (hbody : ∀ (A : Around) (outer : List Env) (s : Shared) (H : Hp) (E : XK), Room k (A.deeper (envOfC x (L2.defScope st) s.heap.objs.size f (.ref cA))) → ∃ t, VSs (cxV P w K mg base N x (L2.defScope st) f (.ref cA) A outer s H E) Pd E (L2.defBody st) t ∧ BodyV F N.length ps.length t) :
    DOk P w K mg base Pd (k + 1) x f fd ps F := by
  refine ⟨?_, m, Fn.kp, Fn.fn.binds hb, kb_fun Fn.fn hk⟩
  obtain ⟨oc, od, kV, doc, pm, an, ct, osl, rfl, lk, hcd⟩ := Fn.ex
  exact fnV_of lk hcd S fun A outer s H E hr => hbody A outer s H E hr
/-- a def that is not called -/
theorem dok_no {ps : List Str} (Fn : L2.Fun K x x st f fd) (m : mg x = some (.ref f)) (hb : BindsAll x st ps) (hk : BindsKw x st ps) : DOk P w K mg base Pd 0 x f fd ps FNo :=
  ⟨⟨fun vs H Q E h => by obtain ⟨_, _, _, _, _, _, _, z, _⟩ := h; exact z.elim, fun A outer s H args us vs Q E hr he hb hv h => by obtain ⟨_, _, _, _, _, _, _, z, _⟩ := h; exact z.elim⟩, m, Fn.kp, Fn.binds hb, kb_fun Fn hk⟩
theorem DOk.mono {ps : List Str} {F : FV} {j k : Nat} (d : DOk P w K mg base Pd j x f fd ps F) (h : j ≤ k) : DOk P w K mg base Pd k x f fd ps F := ⟨d.ok.mono h, d.at_, d.kp, d.b, d.kb⟩
end
/-! ### exception classes -/
theorem xok_mk {P : Program} {w : World} {K : PySem.W.Frag} {mg : Str → Option Value} {C f cc cda : Addr} {B newId initId : String} {bm : List Value} {qual arg fld txt x : Str} {scope : Scope} {j : Nat} {p1 p2 p3 p4 p5 p6 p7 p8 p9 p10 p11 : Pos}
    {oc dV kV doc pm ct : Value} {od an : Option Addr} {osl : Array (Option Value)} {params : Arguments} {name : Str} (T : SupX P K C f cc cda B newId initId bm qual arg fld scope)
    (lk : K.lookup f = some ⟨oc, od, .func (PySem.W.ksFn name qual params (supBody arg fld txt j p1 p2 p3 p4 p5 p6 p7 p8 p9 p10 p11) scope dV kV doc pm an (.ref cda) ct cc), osl⟩)
    (he : ∀ env : Env, ∃ pl : Sem Bool, PySem.eval (.Call (.Attribute (.Call (.Name "super" p1) [] [] p2) "__init__" p3) [.Constant (.str txt) j p4, .Name arg p5] [] p6) env = (do
      let ov ← attributeBase (.Call (.Name "super" p1) [] [] p2) "__init__" env (PySem.eval (.Call (.Name "super" p1) [] [] p2) env)
      standAt p3.atName
      let (f, first) ← holding [ov] (getMethod ov "__init__" pl)
      callWith p6 f first (backTo p6 (starEach [.Constant (.str txt) j p4, .Name arg p5] env)) []))
    (hp : (params.posonlyargs ++ params.args).head?.map (·.arg) = some ("self" : Str))
    (hbind : ∀ (s : Shared) (u v : Value), BindsTo s (PySem.W.ksFn name qual params (supBody arg fld txt j p1 p2 p3 p4 p5 p6 p7 p8 p9 p10 p11) scope dV kV doc pm an (.ref cda) ct cc) ⟨[u, v], []⟩ [("self", u), (arg, v)])
    (hm : mg x = some (.ref C)) (hdb : (x == ("__debug__" : Str)) = false) : XOk P w K mg x C fld :=
  ⟨hm, fun {X k e te p pos} h1 h2 h3 h4 hr hg ha s1 s2 => by
    subst h1 h2 h3 h4
    exact pmk_sup T lk he hp hbind hr hg hm ha hdb s1 s2⟩
/-! ### the script -/
/-- the script: one of the written part's own lists, or one that the heap tells of -/
def Scr (vh : VH) (u : U) (ns : List Int) : Prop := u = .sta ns ∨ ∃ a, u = .ref a ∧ (vh a = some (.lst (ns.map U.int)) ∨ vh a = some (.rol (ns.map U.int)))
@[simp] theorem asL_sta {S : Option (Addr × List Int)} {vh : VH} {ns : List Int} : asL S vh (.sta ns) = some (ns.map U.int) := rfl
@[simp] theorem asSq_sta {S : Option (Addr × List Int)} {vh : VH} {ns : List Int} : asSq S vh (.sta ns) = none := rfl
theorem Scr.asL {S : Option (Addr × List Int)} {vh vh' : VH} {u : U} {ns : List Int} (h : Scr vh u ns) (s : SubH vh vh') : VL.asL S vh' u = some (ns.map U.int) := by
  rcases h with rfl | ⟨a, rfl, h | h⟩
  · rfl
  · exact asL_of (s _ _ h)
  · simp [VL.asL, s _ _ h]
theorem Scr.slice {S : Option (Addr × List Int)} {vh vh' : VH} {u : U} {ns : List Int} {lo hi : Option Int} {K : U → VH → Prop} (h : Scr vh u ns) (s : SubH vh vh') : sliceV S vh' u lo hi K = newL vh' (cutU (ns.map U.int) lo hi) K := by
  have e := h.asL (S := S) s
  rcases h with rfl | ⟨a, rfl, _⟩
  · rfl
  · simp only [sliceV, e]
theorem Scr.len {S : Option (Addr × List Int)} {vh vh' : VH} {u : U} {ns : List Int} {K : U → VH → Prop} (h : Scr vh u ns) (s : SubH vh vh') : lenV S vh' [u] K = K (.int ns.length) vh' := by
  have e := h.asL (S := S) s
  rcases h with rfl | ⟨a, rfl, _⟩
  · rfl
  · simp only [lenV, asSq, e, List.length_map]
theorem tabs_new {T : List (Addr × Str)} {H : Hp} (h : ∀ p ∈ T, H p.1 = some (.tbl #[])) : Tabs T H := fun p hp => ⟨#[], h p hp, trivial, fun pos cv z => by simp [codeAmong] at z⟩
theorem hU_of {T : List (Addr × Str)} {p : Addr} {q : Str} (nd : (T.map (·.1)).Nodup) (h : (p, q) ∈ T) : ∀ r ∈ T, r.1 = p → r.2 = q := by
  induction T with
  | nil => cases h
  | cons a T ih =>
    rw [List.map_cons, List.nodup_cons] at nd
    intro r hr e
    rcases List.mem_cons.1 h with rfl | h2
    · rcases List.mem_cons.1 hr with rfl | hr
      · rfl
      · exact absurd (List.mem_map.2 ⟨r, hr, e⟩) nd.1
    · rcases List.mem_cons.1 hr with rfl | hr
      · exact absurd (List.mem_map.2 ⟨(p, q), h2, e.symm⟩ : r.1 ∈ T.map (·.1)) nd.1
      · exact ih nd.2 h2 r hr e
/-- the promise of the law, at the script -/
theorem law_sp {K : PySem.W.Frag} {T : List (Addr × Str)} {F : FV} {H : Hp} {a : Addr} {ns : List Int} (hF : ∀ (x : U) (vh : VH) (R : U → VH → Prop) (Z : XV), Scr vh x ns → R (.bl true) vh → F [x] vh R Z) (hT : ∀ p ∈ T, H p.1 = some (.tbl #[])) (hS : SqL K H a (ns.map V.int)) :
    spV K ⟨T, none⟩ F 1 [.ref a] H (fun v _ => v = .bl true) fun _ _ _ => False := by
  have fin : ∀ (x : U) (vh : VH), RelU K H x (.ref a) → RelH ⟨K, T, none⟩ H vh → Scr vh x ns → spV K ⟨T, none⟩ F 1 [.ref a] H (fun v _ => v = .bl true) fun _ _ _ => False := fun x vh r1 r2 sc =>
    ⟨[x], vh, fun u _ => u = .bl true, Z0, rfl, RelUs.cons r1 RelUs.nil, r2, hF x vh _ _ sc rfl, fun u vh' e v H' _ r => by subst e; exact r, LX.none⟩
  rcases hS with (h | ⟨o, h⟩) | ⟨o, its, n, h⟩
  · refine fin (.ref a) (vput (fun _ => none) a (.lst (ns.map U.int))) rfl ⟨fun b c e => ?_, tabs_new hT, fun _ _ z => by cases z⟩ (.inr ⟨a, rfl, .inl vput_same⟩)
    by_cases z : b = a
    · subst z; rw [vput_same] at e; cases e; exact ⟨_, h, RelUs.ints⟩
    · rw [vput_ne z] at e; cases e
  · refine fin (.ref a) (vput (fun _ => none) a (.rol (ns.map U.int))) rfl ⟨fun b c e => ?_, tabs_new hT, fun _ _ z => by cases z⟩ (.inr ⟨a, rfl, .inr vput_same⟩)
    by_cases z : b = a
    · subst z; rw [vput_same] at e; cases e; exact ⟨o, _, h, RelUs.ints⟩
    · rw [vput_ne z] at e; cases e
  · exact fin (.sta ns) (fun _ => none) ⟨a, rfl, fun H => .inr ⟨o, its, n, h⟩⟩ ⟨fun _ _ e => (by cases e), tabs_new hT, fun _ _ z => by cases z⟩ (.inl rfl)
theorem caok_mk {K : PySem.W.Frag} {mg : Str → Option Value} {h : Heap} {x fld : Str} {C : Addr} (X : K.In h) (G : h.Ns mainGlobals mg) (a : PySem.W.nsIn K mainGlobals x = some (some (.ref C))) (ga : PySem.W.findIn K (.ref C) "__getattribute__" = some (some (.builtin "BaseException.__getattribute__")))
    (gg : PySem.W.findIn K (.ref C) "__getattr__" = some none) (ex : PySem.W.subIn K (.ref C) (.type "BaseException") = some true) (hd : PySem.W.hasDictIn K C = true) (no : PySem.W.findIn K (.ref C) fld = some none) : CaOk K mg x C fld :=
  ⟨PySem.W.mg_of X G a, ⟨ga, gg, ex, hd⟩, no⟩
/-- an exception class whose __init__ says super().__init__(text, x) and keeps x -/
theorem xo_mk {P : Program} {w : World} {K : PySem.W.Frag} {mg : Str → Option Value} {h : Heap} {C f cc cda : Addr} {B newId initId : String} {bm : List Value} {qual arg fld txt x : Str} {scope : Scope} {j : Nat} {p1 p2 p3 p4 p5 p6 p7 p8 p9 p10 p11 : Pos}
    {oc dV kV doc pm ct : Value} {od an : Option Addr} {osl : Array (Option Value)} {params : Arguments} {name : Str} (X : K.In h) (G : h.Ns mainGlobals mg) (a : PySem.W.nsIn K mainGlobals x = some (some (.ref C))) (bx : BX B newId initId bm)
    (ini : PySem.W.findIn K (.ref C) "__init__" = some (some (.ref f)))
    (lk : K.lookup f = some ⟨oc, od, .func (PySem.W.ksFn name qual params (supBody arg fld txt j p1 p2 p3 p4 p5 p6 p7 p8 p9 p10 p11) scope dV kV doc pm an (.ref cda) ct cc), osl⟩)
    (exI : PySem.W.excInitIn K C bm newId = true) (fn : PySem.W.isFn K (.ref f) = true) (cd : PySem.W.codeIn K (.ref cda) qual = true)
    {ccl : Value} {cdd : Option Addr} {vs : Array Value} {ccs : Array (Option Value)} {file : Str} {tf : Tok} (cod : K.lookup cda = some ⟨ccl, cdd, .fields vs, ccs⟩) (cod2 : vs[2]? = some (.str file tf)) (cod3 : ((P.main.file : Str) == file) = true)
    {cl : Value} {cld : Option Addr} {csl : Array (Option Value)} (cell : K.lookup cc = some ⟨cl, cld, .cell (some (.ref C)), csl⟩) {cdt : ClassData} (cls : PySem.W.clsIn K C = some cdt) (mro : PySem.W.mroIn K C (.ref C) = some true) (nos : PySem.W.nsIn K mainGlobals "super" = some none)
    (top : (P.main.scope.names.lookup ("super" : Str)).isSome = false) (opa : PySem.W.nsIn K cStatics "thirdparty.any" = some none) (sup : PySem.W.ks_superIn K C C "__init__" = some (some (.builtin initId))) (sub : PySem.W.subIn K (.ref C) (.type B) = some true)
    (sa : PySem.W.findIn K (.ref C) "__setattr__" = some (some (.builtin "object.__setattr__"))) (ov : PySem.W.excOver K C bm = true) (tk : PySem.W.takerIn K C fld = some none) (hd : PySem.W.hasDictIn K C = true) (exC : PySem.W.subIn K (.ref C) (.type "BaseException") = some true) (tyC : PySem.W.typeIn K (.ref C) = some (.type "type")) (kC : PySem.W.keepIn K (.ref C) = true)
    (sc : scope.names.lookup ("super" : Str) = some .globalImplicit ∧ scope.names.lookup ("__class__" : Str) = some .free ∧ scope.names.lookup ("self" : Str) = some .local ∧ scope.names.lookup arg = some .local ∧ scope.kind = .function ∧ scope.isCoroutine = false ∧ scope.isGenerator = false ∧ (∀ x ∈ scope.names, x.2 ≠ .cell))
    (na : arg ≠ "self") (nd : (arg == ("__debug__" : Str)) = false)
    (he : ∀ env : Env, ∃ pl : Sem Bool, PySem.eval (.Call (.Attribute (.Call (.Name "super" p1) [] [] p2) "__init__" p3) [.Constant (.str txt) j p4, .Name arg p5] [] p6) env = (do
      let ov ← attributeBase (.Call (.Name "super" p1) [] [] p2) "__init__" env (PySem.eval (.Call (.Name "super" p1) [] [] p2) env)
      standAt p3.atName
      let (f, first) ← holding [ov] (getMethod ov "__init__" pl)
      callWith p6 f first (backTo p6 (starEach [.Constant (.str txt) j p4, .Name arg p5] env)) []))
    (hp : (params.posonlyargs ++ params.args).head?.map (·.arg) = some ("self" : Str))
    (hbind : ∀ (s : Shared) (u v : Value), BindsTo s (PySem.W.ksFn name qual params (supBody arg fld txt j p1 p2 p3 p4 p5 p6 p7 p8 p9 p10 p11) scope dV kV doc pm an (.ref cda) ct cc) ⟨[u, v], []⟩ [("self", u), (arg, v)])
    (hdb : (x == ("__debug__" : Str)) = false) : XOk P w K mg x C fld :=
  xok_mk (cc := cc) (cda := cda) ⟨bx, ini, exI, fn, cd, ⟨_, _, _, _, _, _, cod, cod2, cod3⟩, ⟨_, _, _, cell⟩, ⟨_, cls⟩, mro, nos, top, opa, sup, sub, sa, ov, tk, hd, sc.1, sc.2.1, sc.2.2.1, sc.2.2.2.1, sc.2.2.2.2.1, sc.2.2.2.2.2.1, sc.2.2.2.2.2.2.1, sc.2.2.2.2.2.2.2, na, nd, exC, tyC, kC⟩ lk he hp hbind (PySem.W.mg_of X G a) hdb
/-- the first def of a class -/
def initOf (st : Stmt) : Stmt := match st with
  | .ClassDef _ _ _ b _ _ _ _ _ _ _ => b.getD 0 (.Pass ⟨0, 0, 0, 0⟩)
  | s => s
end VL

-- part B20
set_option Elab.async false
set_option linter.all false
set_option maxRecDepth 100000
set_option maxHeartbeats 1000000
/-! Plain laws, part 20: _law_tape. -/
namespace K75
open PySem PySem.Spec PyProof.Rows L2 VL LamX
/-- the tape: some ints -/
def F_tape : FV := fun us vh R _ => ∃ u ns m s, us = [u, .int m, .int s] ∧ Scr vh u ns ∧ ns.length ≤ 63 ∧ 0 ≤ m ∧ m ≤ 1000 ∧ 0 ≤ s ∧ s ≤ 1000 ∧ ∀ ts : List Int, newL vh (ts.map U.int) R
@[simp] theorem asL_sta {S : SS} {vh : VH} {ns : List Int} : asL S vh (.sta ns) = some (ns.map U.int) := rfl
@[simp] theorem asSq_sta {S : SS} {vh : VH} {ns : List Int} : asSq S vh (.sta ns) = none := rfl
theorem cut_map {α : Type} (f : α → U) (l : List α) (lo hi : Option Int) : ∃ l' : List α, cutU (l.map f) lo hi = l'.map f ∧ l'.length ≤ l.length := by
  unfold cutU
  refine ⟨(l.drop (HT.sIx (l.map f).length 0 lo)).take (HT.sIx (l.map f).length (l.map f).length hi - HT.sIx (l.map f).length 0 lo), by rw [List.map_take, List.map_drop], ?_⟩
  simp only [List.length_take, List.length_drop]
  omega
theorem sz1k : 100000 ≤ sizeLine := by decide
theorem b_tape {S : SS} : BodyV F_tape 9 3 (t__law_tape S) := by
  rintro us vh R Z hl ⟨u, ns, m, s, rfl, scr, hn, hm0, hm1, hs0, hs1, r⟩
  clear hl
  have hz := sz1k
  obtain ⟨l1, hl1, hl1n⟩ := cut_map U.int ns none (some 63)
  simp [t__law_tape, ltV, leV, gtV, geV, sumV, maxV, minV, allV, anyV, sortV, sNext, sSeq, sNever, sBreak, sDrop, sRet, sRetN, sIf, gN, gNl, gCn, gTp, gSb, sAsg, sPar, vVar, vC, vNil, vCons, vTup, vLst, v2, addV, intsV, ints0V, mulV, vNeg, eqV', neV', inV', isV, VL.isNon, vTest, vChain, vAnd, vOr, vNot, vAndV, vOrV, vNotV, vIf, ixV, vNo, vPart, vSl, vLc_eq, vDc_eq, sFor_eq, sWhile_eq, iSq, iRg1, iRg2, iEn, iZp, vCB, listV, tupleV, intV1, absV1, ofInts, ofBls, two, vIsi, vM, vM0, appendV, extendV, popV, popAtV, vIndex, vDnew, vCall, sRaise, vYes, vRev, getV, startV, wipeV]
  intro p hp
  rw [scr.slice ((SubH.refl _).put hp)]
  intro q hq
  rw [hl1]
  try simp only [asSq_new]
  have hpq : p ≠ q := fun z => by subst z; rw [vput_same] at hq; cases hq
  have hq0 : vh q = none := by rw [vput_ne (Ne.symm hpq)] at hq; exact hq
  have sub0 : ∀ {vh' : VH} {c : Cel}, SubH vh vh' → SubH vh (vput vh' p c) := fun h => h.put hp
  -- the first loop
  refine ForB.ofk l1 U.int rfl (fun pre Γ vh' => SubH vh vh' ∧ vh' q = some (.lst (l1.map U.int)) ∧ (∃ a b c d e, Γ = [some u, some (.int m), some (.int s), some (.ref p), a, b, c, d, e]) ∧ ∃ fs : List Int, vh' p = some (tpU fs) ∧ fs.length ≤ 60 * pre.length)
    (fun _ _ _ h => asSq_of h.2.1) ⟨((SubH.refl _).put hp).put hq0, vput_same, ⟨_, _, _, _, _, rfl⟩, [], by rw [vput_ne hpq, vput_same]; rfl, by simp⟩ (fun Γ1 w1 ⟨s1, _, ⟨a1, b1, c1, d1, e1, hΓ⟩, fs, hf, hfl⟩ => ?_) fun pre x suf Γ1 w1 hpre ⟨s1, hq1, ⟨a1, b1, c1, d1, e1, hΓ⟩, fs, hf, hfl⟩ => ?_
  · -- behind it
    subst hΓ
    simp [ltV, leV, gtV, geV, sumV, maxV, minV, allV, anyV, sortV, sNext, sSeq, sNever, sBreak, sDrop, sRet, sRetN, sIf, gN, gNl, gCn, gTp, gSb, sAsg, sPar, vVar, vC, vNil, vCons, vTup, vLst, v2, addV, intsV, ints0V, mulV, vNeg, eqV', neV', inV', isV, VL.isNon, vTest, vChain, vAnd, vOr, vNot, vAndV, vOrV, vNotV, vIf, ixV, vNo, vPart, vSl, vLc_eq, vDc_eq, sFor_eq, sWhile_eq, iSq, iRg1, iRg2, iEn, iZp, vCB, listV, tupleV, intV1, absV1, ofInts, ofBls, two, vIsi, vM, vM0, appendV, extendV, popV, popAtV, vIndex, vDnew, vCall, sRaise, vYes, vRev, getV, startV, wipeV]
    rw [scr.len s1]
    refine ⟨by unfold CMul; omega, by unfold CMul; omega, ?_⟩
    rw [scr.slice s1]
    intro q2 hq2
    obtain ⟨l2, hl2, hl2n⟩ := cut_map U.int ns none (some 63)
    rw [hl2]
    try simp only [asSq_new]
    have hpq2 : p ≠ q2 := fun z => by subst z; rw [hf] at hq2; cases hq2
    have hfq := putO (c := .lst (l2.map U.int)) hf hq2
    refine ForB.ofk l2 U.int rfl (fun pre Γ vh' => SubH vh vh' ∧ vh' q2 = some (.lst (l2.map U.int)) ∧ (∃ a b c e, ∃ st : Int, Γ = [some u, some (.int m), some (.int s), some (.ref p), a, b, c, some (.int st), e] ∧ 0 ≤ st ∧ st < 2147483647) ∧ vh' p = some (tpU fs))
      (fun _ _ _ h => asSq_of h.2.1) ⟨s1.put' hq2, vput_same, ⟨_, _, _, _, _, rfl, by omega, by omega⟩, hfq⟩ (fun Γ2 w2 ⟨s2, _, ⟨a2, b2, c2, e2, st, hΓ, g1, g2⟩, hf2⟩ => ?_) fun pre x suf Γ2 w2 hpre ⟨s2, hq3, ⟨a2, b2, c2, e2, st, hΓ, g1, g2⟩, hf2⟩ => ?_
    · subst hΓ
      simp [ltV, leV, gtV, geV, sumV, maxV, minV, allV, anyV, sortV, sNext, sSeq, sNever, sBreak, sDrop, sRet, sRetN, sIf, gN, gNl, gCn, gTp, gSb, sAsg, sPar, vVar, vC, vNil, vCons, vTup, vLst, v2, addV, intsV, ints0V, mulV, vNeg, eqV', neV', inV', isV, VL.isNon, vTest, vChain, vAnd, vOr, vNot, vAndV, vOrV, vNotV, vIf, ixV, vNo, vPart, vSl, sliceV, vLc_eq, vDc_eq, sFor_eq, sWhile_eq, iSq, iRg1, iRg2, iEn, iZp, vCB, lenV, listV, tupleV, intV1, absV1, ofInts, ofBls, two, vIsi, vM, vM0, appendV, extendV, popV, popAtV, vIndex, vDnew, vCall, sRaise, vYes, vRev, getV, startV, wipeV]
      refine ⟨by unfold B62; omega, ?_⟩
      have hfl2 : fs.length ≤ 60 * 63 := by omega
      refine ForB.ofm (rng 0 m) U.int (by rw [rngUh]) (fun _ => trivial) (fun pre Γ vh' => SubH vh vh' ∧ (∃ a b c e, ∃ st : Int, Γ = [some u, some (.int m), some (.int s), some (.ref p), a, b, c, some (.int st), e] ∧ 0 ≤ st ∧ st < 2147483647) ∧ ∃ fs' : List Int, vh' p = some (tpU fs') ∧ fs'.length ≤ 4000 + pre.length)
        ⟨s2, ⟨_, _, _, _, _, rfl, g1, g2⟩, fs, hf2, by omega⟩ (fun Γ3 w3 ⟨s3, ⟨a3, b3, c3, e3, st3, hΓ, g3, g4⟩, fs3, hf3, hl3⟩ => ?_) fun pre x suf Γ3 w3 hpre ⟨s3, ⟨a3, b3, c3, e3, st3, hΓ, g3, g4⟩, fs3, hf3, hl3⟩ => ?_
      · subst hΓ
        simp [ltV, leV, gtV, geV, sumV, maxV, minV, allV, anyV, sortV, sNext, sSeq, sNever, sBreak, sDrop, sRet, sRetN, sIf, gN, gNl, gCn, gTp, gSb, sAsg, sPar, vVar, vC, vNil, vCons, vTup, vLst, v2, addV, intsV, ints0V, mulV, vNeg, eqV', neV', inV', isV, VL.isNon, vTest, vChain, vAnd, vOr, vNot, vAndV, vOrV, vNotV, vIf, ixV, vNo, vPart, vSl, sliceV, vLc_eq, vDc_eq, sFor_eq, sWhile_eq, iSq, iRg1, iRg2, iEn, iZp, vCB, lenV, listV, tupleV, intV1, absV1, ofInts, ofBls, two, vIsi, vM, vM0, appendV, extendV, popV, popAtV, vIndex, vDnew, vCall, sRaise, vYes, vRev, getV, startV, wipeV, asL_of hf3]
        intro q4 hq4
        obtain ⟨l4, hl4, _⟩ := cut_map U.int fs3 none (some m)
        rw [hl4]
        simp only [asL_new]
        intro q5 hq5
        rw [← List.map_reverse]
        have h4 : SubH vh (vput w3 q4 (.lst (l4.map U.int))) := s3.put' hq4
        exact RD.of (r l4.reverse q5 (h4.no hq5)) h4.put2
      · subst hΓ
        have hx := mem_rng.1 (show x ∈ rng 0 m by rw [hpre]; simp)
        have hpl := pre_len hpre
        rw [rng_len] at hpl
        simp [ltV, leV, gtV, geV, sumV, maxV, minV, allV, anyV, sortV, sNext, sSeq, sNever, sBreak, sDrop, sRet, sRetN, sIf, gN, gNl, gCn, gTp, gSb, sAsg, sPar, vVar, vC, vNil, vCons, vTup, vLst, v2, addV, intsV, ints0V, mulV, vNeg, eqV', neV', inV', isV, VL.isNon, vTest, vChain, vAnd, vOr, vNot, vAndV, vOrV, vNotV, vIf, ixV, vNo, vPart, vSl, sliceV, vLc_eq, vDc_eq, sFor_eq, sWhile_eq, iSq, iRg1, iRg2, iEn, iZp, vCB, lenV, listV, tupleV, intV1, absV1, ofInts, ofBls, two, vIsi, vM, vM0, appendV, extendV, popV, popAtV, vIndex, vDnew, vCall, sRaise, vYes, vRev, getV, startV, wipeV, asSq_of hf3, lenV]
        by_cases c : m ≤ fs3.length
        · simp [c]
          simp only [asL_of hf3]
          intro q4 hq4
          obtain ⟨l4, hl4, _⟩ := cut_map U.int fs3 none (some m)
          rw [hl4]
          simp only [asL_new]
          intro q5 hq5
          rw [← List.map_reverse]
          have h4 : SubH vh (vput w3 q4 (.lst (l4.map U.int))) := s3.put' hq4
          exact RD.of (r l4.reverse q5 (h4.no hq5)) h4.put2
        · simp [c]
          have f1 := Int.fmod_nonneg_of_pos (st3 * 69621 + x + 12345) (show (0 : Int) < 2147483647 by omega)
          have f2 := Int.fmod_lt_of_pos (st3 * 69621 + x + 12345) (show (0 : Int) < 2147483647 by omega)
          generalize (st3 * 69621 + x + 12345).fmod 2147483647 = st4 at *
          have h13 : CDivN ((st4 * (st4 + 7)).fmod 2147483629) 13 := by unfold CDivN; omega
          have h7 : CMul st4 (st4 + 7) := by unfold CMul; omega
          have h9 : CMul st3 69621 := by unfold CMul; omega
          simp only [asL_of hf3, ownL_of hf3]
          refine ⟨h9, h7, rfl, h13, by simp only [List.length_map]; omega, s3.put hp, ⟨_, _, _, _, _, ⟨rfl, rfl, rfl, rfl, rfl⟩, f1, f2⟩, fs3 ++ [_], by rw [vput_same]; simp; rfl, by simp; omega⟩
    · subst hΓ
      simp [ltV, leV, gtV, geV, sumV, maxV, minV, allV, anyV, sortV, sNext, sSeq, sNever, sBreak, sDrop, sRet, sRetN, sIf, gN, gNl, gCn, gTp, gSb, sAsg, sPar, vVar, vC, vNil, vCons, vTup, vLst, v2, addV, intsV, ints0V, mulV, vNeg, eqV', neV', inV', isV, VL.isNon, vTest, vChain, vAnd, vOr, vNot, vAndV, vOrV, vNotV, vIf, ixV, vNo, vPart, vSl, sliceV, vLc_eq, vDc_eq, sFor_eq, sWhile_eq, iSq, iRg1, iRg2, iEn, iZp, vCB, lenV, listV, tupleV, intV1, absV1, ofInts, ofBls, two, vIsi, vM, vM0, appendV, extendV, popV, popAtV, vIndex, vDnew, vCall, sRaise, vYes, vRev, getV, startV, wipeV]
      have f1 := Int.fmod_nonneg_of_pos (st * 48271 + x.fmod 1000003 + 11) (show (0 : Int) < 2147483647 by omega)
      have f2 := Int.fmod_lt_of_pos (st * 48271 + x.fmod 1000003 + 11) (show (0 : Int) < 2147483647 by omega)
      exact ⟨by unfold CMul; omega, s2, hq3, ⟨_, _, _, _, _, ⟨rfl, rfl, rfl, rfl, rfl⟩, f1, f2⟩, hf2⟩
  · subst hΓ
    simp [ltV, leV, gtV, geV, sumV, maxV, minV, allV, anyV, sortV, sNext, sSeq, sNever, sBreak, sDrop, sRet, sRetN, sIf, gN, gNl, gCn, gTp, gSb, sAsg, sPar, vVar, vC, vNil, vCons, vTup, vLst, v2, addV, intsV, ints0V, mulV, vNeg, eqV', neV', inV', isV, VL.isNon, vTest, vChain, vAnd, vOr, vNot, vAndV, vOrV, vNotV, vIf, ixV, vNo, vPart, vSl, sliceV, vLc_eq, vDc_eq, sFor_eq, sWhile_eq, iSq, iRg1, iRg2, iEn, iZp, vCB, lenV, listV, tupleV, intV1, absV1, ofInts, ofBls, two, vIsi, vM, vM0, appendV, extendV, popV, popAtV, vIndex, vDnew, vCall, sRaise, vYes, vRev, getV, startV, wipeV]
    refine ⟨by unfold CPow; omega, ?_⟩
    by_cases c0 : (1000000000000000000 : Int) ≤ if x < 0 then -x else x
    · rw [if_pos c0]
      refine ⟨by unfold B62; omega, ?_⟩
      have hpl := pre_len hpre
      refine ForB.ofm (rng 0 (60 : Nat)) U.int (by rw [rngU0]) (fun _ => trivial) (fun pre2 Γ vh' => SubH vh vh' ∧ vh' q = some (.lst (l1.map U.int)) ∧ (∃ a c d e, ∃ rest : Int, Γ = [some u, some (.int m), some (.int s), some (.ref p), a, some (.int rest), c, d, e]) ∧ ∃ fs' : List Int, vh' p = some (tpU fs') ∧ fs'.length ≤ 60 * pre.length + pre2.length)
        ⟨s1, hq1, ⟨_, _, _, _, _, rfl⟩, fs, hf, by omega⟩ (fun Γ3 w3 ⟨s3, hq3, ⟨a3, c3, d3, e3, rest, hΓ⟩, fs3, hf3, hl3⟩ => ?_) fun pre2 y suf2 Γ3 w3 hpre2 ⟨s3, hq3, ⟨a3, c3, d3, e3, rest, hΓ⟩, fs3, hf3, hl3⟩ => ?_
      · subst hΓ
        rw [rng_len] at hl3
        exact ⟨s3, hq3, ⟨_, _, _, _, _, rfl⟩, fs3, hf3, by simp at hl3 ⊢; omega⟩
      · subst hΓ
        have hpl2 := pre_len hpre2
        rw [rng_len] at hpl2
        simp [ltV, leV, gtV, geV, sumV, maxV, minV, allV, anyV, sortV, sNext, sSeq, sNever, sBreak, sDrop, sRet, sRetN, sIf, gN, gNl, gCn, gTp, gSb, sAsg, sPar, vVar, vC, vNil, vCons, vTup, vLst, v2, addV, intsV, ints0V, mulV, vNeg, eqV', neV', inV', isV, VL.isNon, vTest, vChain, vAnd, vOr, vNot, vAndV, vOrV, vNotV, vIf, ixV, vNo, vPart, vSl, sliceV, vLc_eq, vDc_eq, sFor_eq, sWhile_eq, iSq, iRg1, iRg2, iEn, iZp, vCB, lenV, listV, tupleV, intV1, absV1, ofInts, ofBls, two, vIsi, vM, vM0, appendV, extendV, popV, popAtV, vIndex, vDnew, vCall, sRaise, vYes, vRev, getV, startV, wipeV]
        by_cases c : rest = 0
        · simp [c]
          exact ⟨s3, hq3, fs3, hf3, by omega⟩
        · simp only [c, if_false, asL_of hf3, ownL_of hf3]
          have h1000 : CDivN rest 1000 := by unfold CDivN; omega
          refine ⟨rfl, by simp only [List.length_map]; omega, h1000, s3.put hp, ?_, fs3 ++ [_], by rw [vput_same]; simp; rfl, by simp; omega⟩
          rw [vput_ne (Ne.symm hpq)]; exact hq3
    · rw [if_neg c0]
      exact ⟨s1, hq1, fs, hf, by omega⟩
end K75

-- part B21
set_option Elab.async false
set_option linter.all false
set_option maxRecDepth 100000
set_option maxHeartbeats 1000000
/-! Plain laws, part 21: _law_wishes. -/
namespace K75
open PySem PySem.Spec PyProof.Rows L2 VL LamX
def F_wishes : FV := fun us vh R _ => ∃ a m s ns, us = [.ref a, .int m, .int s] ∧ vh a = some (tpU ns) ∧ 0 ≤ m ∧ m ≤ 8 ∧ 0 < s ∧ s ≤ 1000 ∧ ∀ W ns', VW W → R (WU W) (vput vh a (tpU ns'))
theorem wAt_set {W : List (List Int)} {i j : Int} {l : List Int} (h0 : 0 ≤ i) (hi : i < W.length) (hj : 0 ≤ j) : wAt (W.set i.toNat l) j = if j = i then l else wAt W j := by
  unfold wAt
  simp only [List.getD_eq_getElem?_getD, List.getElem?_set]
  by_cases e : j = i
  · subst e
    rw [if_pos rfl, if_pos rfl, if_pos (by omega)]; rfl
  · rw [if_neg (by omega), if_neg e]
/-- the lists at as hold W -/
structure LS (vh : VH) (as : List Addr) (W : List (List Int)) : Prop where
  len : as.length = W.length
  at_ : ∀ (i : Nat) (x : Addr), as[i]? = some x → vh x = some (tpU (wAt W i))
theorem LS.sub {vh vh' : VH} {as : List Addr} {W : List (List Int)} (l : LS vh as W) (s : SubH vh vh') : LS vh' as W := ⟨l.len, fun i x h => s _ _ (l.at_ i x h)⟩
theorem LS.new {vh : VH} {as : List Addr} {W : List (List Int)} {a : Addr} {c : Cel} (l : LS vh as W) (h : a ∉ as) : LS (vput vh a c) as W := ⟨l.len, fun i x hx => by
  rw [vput_ne (fun e => h (by rw [← e]; exact List.mem_of_getElem? hx))]
  exact l.at_ i x hx⟩
theorem LS.app {vh : VH} {as : List Addr} {W : List (List Int)} {i : Int} {x : Addr} {o : Int} (l : LS vh as W) (nd : as.Nodup) (h0 : 0 ≤ i) (hx : as[i.toNat]? = some x) : LS (vput vh x (tpU (wAt W i ++ [o]))) as (W.set i.toNat (wAt W i ++ [o])) := by
  have hi := (List.getElem?_eq_some_iff.1 hx).1
  have hl := l.len
  refine ⟨by rw [List.length_set]; exact hl, fun j y hy => ?_⟩
  by_cases e : y = x
  · subst e
    have hj : j = i.toNat := by
      obtain ⟨h1, e1⟩ := List.getElem?_eq_some_iff.1 hx
      obtain ⟨h2, e2⟩ := List.getElem?_eq_some_iff.1 hy
      exact (List.getElem_inj nd).1 (e2.trans e1.symm)
    rw [vput_same, wAt_set h0 (by omega) (by omega), if_pos (by omega)]
  · rw [vput_ne e, l.at_ j y hy, wAt_set h0 (by omega) (by omega), if_neg]
    intro z
    have : j = i.toNat := by omega
    subst this
    rw [hx] at hy
    exact e (Option.some.inj hy).symm
/-- what is drawn so far: pairs below (one, other) -/
structure Dr (n : Int) (W : List (List Int)) (one other : Int) : Prop where
  len : (W.length : Int) = n
  nd : ∀ i : Int, 0 ≤ i → i < n → (wAt W i).Nodup
  rg : ∀ i : Int, 0 ≤ i → i < n → ∀ j ∈ wAt W i, 0 ≤ j ∧ j < n ∧ j ≠ i
  sym : ∀ i : Int, 0 ≤ i → i < n → ∀ j ∈ wAt W i, i ∈ wAt W j
  old : ∀ i : Int, 0 ≤ i → i < n → ∀ j ∈ wAt W i, i < j → i < one ∨ (i = one ∧ j < other)
theorem Dr.mono {n : Int} {W : List (List Int)} {one other one' other' : Int} (d : Dr n W one other) (h : ∀ i j : Int, i < j → j < n → (i < one ∨ (i = one ∧ j < other)) → i < one' ∨ (i = one' ∧ j < other')) : Dr n W one' other' :=
  ⟨d.len, d.nd, d.rg, d.sym, fun i h0 h1 j hj hl => h i j hl (d.rg i h0 h1 j hj).2.1 (d.old i h0 h1 j hj hl)⟩
theorem Dr.add {n : Int} {W : List (List Int)} {one other : Int} (d : Dr n W one other) (h0 : 0 ≤ one) (hlt : one < other) (hn : other < n) :
    Dr n ((W.set one.toNat (wAt W one ++ [other])).set other.toNat (wAt (W.set one.toNat (wAt W one ++ [other])) other ++ [one])) one (other + 1) := by
  have hl := d.len
  have e : ∀ i : Int, 0 ≤ i → wAt ((W.set one.toNat (wAt W one ++ [other])).set other.toNat (wAt (W.set one.toNat (wAt W one ++ [other])) other ++ [one])) i = if i = other then wAt W other ++ [one] else if i = one then wAt W one ++ [other] else wAt W i := by
    intro i hi
    rw [wAt_set (by omega) (by rw [List.length_set]; omega) hi]
    by_cases c : i = other
    · rw [if_pos c, if_pos c, wAt_set h0 (by omega) (by omega), if_neg (by omega)]
    · rw [if_neg c, if_neg c, wAt_set h0 (by omega) hi]
  have n1 : other ∉ wAt W one := fun h => by have := d.old one h0 (by omega) other h hlt; omega
  have n2 : one ∉ wAt W other := fun h => n1 (d.sym other (by omega) hn one h)
  have mem : ∀ i j : Int, 0 ≤ i → i < n → (j ∈ wAt ((W.set one.toNat (wAt W one ++ [other])).set other.toNat (wAt (W.set one.toNat (wAt W one ++ [other])) other ++ [one])) i ↔ j ∈ wAt W i ∨ (i = one ∧ j = other) ∨ (i = other ∧ j = one)) := by
    intro i j hi hi2
    rw [e i hi]
    by_cases c : i = other
    · have c2 : i ≠ one := by omega
      rw [if_pos c]; subst c; simp [c2]
    · rw [if_neg c]
      by_cases c2 : i = one
      · subst c2; rw [if_pos rfl]; simp [c]
      · rw [if_neg c2]; simp [c, c2]
  refine ⟨by simpa using hl, fun i hi hi2 => ?_, fun i hi hi2 j hj => ?_, fun i hi hi2 j hj => ?_, fun i hi hi2 j hj hij => ?_⟩
  · rw [e i hi]
    split
    · exact List.nodup_append.2 ⟨d.nd other (by omega) hn, by simp, fun x hx y hy z => by cases List.mem_singleton.1 hy; subst z; exact n2 hx⟩
    · split
      · exact List.nodup_append.2 ⟨d.nd one h0 (by omega), by simp, fun x hx y hy z => by cases List.mem_singleton.1 hy; subst z; exact n1 hx⟩
      · exact d.nd i hi hi2
  · rcases (mem i j hi hi2).1 hj with h | ⟨rfl, rfl⟩ | ⟨rfl, rfl⟩
    · exact d.rg i hi hi2 j h
    · omega
    · omega
  · rcases (mem i j hi hi2).1 hj with h | ⟨rfl, rfl⟩ | ⟨rfl, rfl⟩
    · have := d.rg i hi hi2 j h
      exact (mem j i (by omega) (by omega)).2 (.inl (d.sym i hi hi2 j h))
    · exact (mem _ _ (by omega) (by omega)).2 (.inr (.inr ⟨rfl, rfl⟩))
    · exact (mem _ _ (by omega) (by omega)).2 (.inr (.inl ⟨rfl, rfl⟩))
  · rcases (mem i j hi hi2).1 hj with h | ⟨rfl, rfl⟩ | ⟨rfl, rfl⟩
    · have := d.old i hi hi2 j h hij; omega
    · omega
    · omega
theorem Dr.vw {n : Int} {W : List (List Int)} {one other : Int} (d : Dr n W one other) (h : n ≤ 8) : VW W := by
  have hl := d.len
  exact ⟨by omega, fun i a b => d.nd i a (by omega), fun i a b j hj => by have := d.rg i a (by omega) j hj; omega, fun i a b => d.sym i a (by omega)⟩
/-- each row mixed -/
theorem vw_perm {W Y : List (List Int)} (v : VW W) (hl : Y.length = W.length) (h : ∀ (k : Nat) (row : List Int), Y[k]? = some row → row.Perm (wAt W k)) : VW Y := by
  have hp : ∀ i : Int, 0 ≤ i → i < W.length → (wAt Y i).Perm (wAt W i) := fun i a b => by
    have := wAt_get (W := Y) (i := i) a (by omega)
    have := h _ _ this
    rwa [Int.toNat_of_nonneg a] at this
  refine ⟨by rw [hl]; exact v.len, fun i a b => ?_, fun i a b j hj => ?_, fun i a b j hj => ?_⟩
  · rw [hl] at b
    exact (hp i a b).nodup_iff.2 (v.nd i a b)
  · rw [hl] at b ⊢
    exact v.rg i a b j ((hp i a b).mem_iff.1 hj)
  · rw [hl] at b
    have hj := (hp i a b).mem_iff.1 hj
    have hr := v.rg i a b j hj
    exact (hp j hr.1 hr.2.1).mem_iff.2 (v.sym i a b j hj)
theorem vput_vput {vh : VH} {a : Addr} {c d : Cel} : vput (vput vh a c) a d = vput vh a d := by
  funext x
  unfold vput
  split <;> simp_all
theorem f_mixed {a b : Addr} {ns xs : List Int} {vh : VH} {R : U → VH → Prop} {Z : XV} (ha : vh a = some (tpU ns)) (hb : vh b = some (tpU xs)) (hx : xs.length ≤ 1000) (h : ∀ (ys ns' : List Int), ys.Perm xs → newL (vput vh a (tpU ns')) (ys.map U.int) R) : F_mixed [.ref a, .ref b] vh R Z := ⟨a, b, ns, xs, rfl, ha, hb, hx, h⟩
theorem at_refs {as : List Addr} {i : Int} {x : Addr} (h0 : 0 ≤ i) (h : as[i.toNat]? = some x) : L2.atI (as.map U.ref) i = some (.ref x) := at_map h0 h
/-- so far, the pairs below (i, j) are drawn -/
def DrI (vh : VH) (a pl : Addr) (as : List Addr) (n i j : Int) (vh' : VH) : Prop := ∃ ns' W, SubH (vput vh a (tpU ns')) vh' ∧ vh' pl = some (.lst (as.map U.ref)) ∧ LS vh' as W ∧ Dr n W i j
/-- so far, k rows are mixed -/
def MxI (vh : VH) (a pl : Addr) (as : List Addr) (W : List (List Int)) (k : Nat) (acc : List U) (vh' : VH) : Prop := ∃ Y : List (List Int), acc = Y.map tupI ∧ Y.length = k ∧ (∀ (j : Nat) (row : List Int), Y[j]? = some row → row.Perm (wAt W j)) ∧ ∃ ns', SubH (vput vh a (tpU ns')) vh' ∧ vh' pl = some (.lst (as.map U.ref)) ∧ LS vh' as W
theorem b_wishes {S : SS} : BodyV F_wishes 10 3 (t__law_wishes S F_mixed F_take) := by
  rintro us vh R Z hl ⟨a, m, s, ns, rfl, ha, hm0, hm1, hs0, hs1, r⟩
  clear hl
  have hz := sz1k
  simp [t__law_wishes, ltV, leV, gtV, geV, sumV, maxV, minV, allV, anyV, sortV, sNext, sSeq, sNever, sBreak, sDrop, sRet, sRetN, sIf, gN, gNl, gCn, gTp, gSb, sAsg, sPar, vVar, vC, vNil, vCons, vTup, vLst, v2, addV, intsV, ints0V, mulV, vNeg, eqV', neV', inV', isV, VL.isNon, vTest, vChain, vAnd, vOr, vNot, vAndV, vOrV, vNotV, vIf, ixV, vNo, vPart, vSl, sliceV, vLc_eq, vDc_eq, sFor_eq, sWhile_eq, iSq, iRg1, iRg2, iEn, iZp, vCB, lenV, listV, tupleV, intV1, absV1, ofInts, ofBls, two, vIsi, vM, vM0, appendV, extendV, popV, popAtV, vIndex, vDnew, vCall, sRaise, vYes, vRev, getV, startV, wipeV]
  refine f_take ha (by omega) fun n ns1 hn0 hn1 => ?_
  refine f_take vput_same (by omega) fun wd ns2 hw0 hw1 => ?_
  rw [vput_vput]
  refine ⟨b62 (by omega) (by omega), ?_⟩
  have hlen8 : n.toNat ≤ 8 := by omega
  -- the lists are made
  refine ⟨fun i acc vh' => ∃ as : List Addr, acc = as.map U.ref ∧ as.length = i ∧ as.Nodup ∧ SubH (vput vh a (tpU ns2)) vh' ∧ ∀ x ∈ as, (vput vh a (tpU ns2)) x = none ∧ vh' x = some (tpU []), ⟨[], rfl, rfl, List.nodup_nil, .refl _, fun _ h => by cases h⟩, fun i acc vh' ⟨as, e1, e2, nd, s1, h1⟩ hi => ⟨trivial, fun hlast => ?_, fun u hu => ?_⟩⟩
  rotate_left
  · obtain ⟨hlt, rfl⟩ := rngU_get hu
    refine ⟨by omega, ?_⟩
    simp [ltV, leV, gtV, geV, sumV, maxV, minV, allV, anyV, sortV, sNext, sSeq, sNever, sBreak, sDrop, sRet, sRetN, sIf, gN, gNl, gCn, gTp, gSb, sAsg, sPar, vVar, vC, vNil, vCons, vTup, vLst, v2, addV, intsV, ints0V, mulV, vNeg, eqV', neV', inV', isV, VL.isNon, vTest, vChain, vAnd, vOr, vNot, vAndV, vOrV, vNotV, vIf, ixV, vNo, vPart, vSl, sliceV, vLc_eq, vDc_eq, sFor_eq, sWhile_eq, iSq, iRg1, iRg2, iEn, iZp, vCB, lenV, listV, tupleV, intV1, absV1, ofInts, ofBls, two, vIsi, vM, vM0, appendV, extendV, popV, popAtV, vIndex, vDnew, vCall, sRaise, vYes, vRev, getV, startV, wipeV]
    intro p hp
    refine ⟨as ++ [p], by rw [e1]; simp, by simp [e2], ?_, s1.put' hp, fun x hx => ?_⟩
    · refine List.nodup_append.2 ⟨nd, by simp, fun x hx y hy z => ?_⟩
      cases List.mem_singleton.1 hy
      subst z
      rw [(h1 x hx).2] at hp; cases hp
    · rcases List.mem_append.1 hx with hx | hx
      · obtain ⟨g1, g2⟩ := h1 x hx
        exact ⟨g1, putO g2 hp⟩
      · cases List.mem_singleton.1 hx
        exact ⟨s1.no hp, vput_same⟩
  rw [rngU_len] at hlast
  intro pl hpl
  rw [e1]
  have hpl0 := s1.no hpl
  have npl : pl ∉ as := fun z => by rw [(h1 pl z).2] at hpl; cases hpl
  have nav : ∀ x, (vput vh a (tpU ns2)) x = none → x ≠ a ∧ ∀ ns', (vput vh a (tpU ns')) x = none := fun x hx => by
    have ne : x ≠ a := fun z => by subst z; rw [vput_same] at hx; cases hx
    exact ⟨ne, fun ns' => by rw [vput_ne ne] at hx ⊢; exact hx⟩
  have nas : a ∉ as := fun z => (nav a (h1 a z).1).1 rfl
  have s2 : SubH (vput vh a (tpU ns2)) (vput vh' pl (.lst (as.map U.ref))) := s1.put' hpl
  have l0 : LS (vput vh' pl (.lst (as.map U.ref))) as (List.replicate as.length []) := ⟨by simp, fun i x hx => by
    rw [vput_ne (fun e => npl (by rw [← e]; exact List.mem_of_getElem? hx)), (h1 x (List.mem_of_getElem? hx)).2]
    congr 2
    simp [wAt, List.getD_eq_getElem?_getD, List.getElem?_replicate]
    split <;> rfl⟩
  have hpl1 : vput vh' pl (.lst (as.map U.ref)) pl = some (.lst (as.map U.ref)) := vput_same
  generalize vput vh' pl (.lst (as.map U.ref)) = w0 at *
  have wz : ∀ (k : Nat) (i : Int), wAt (List.replicate k []) i = [] := fun k i => by
    simp [wAt, List.getD_eq_getElem?_getD, List.getElem?_replicate]
    split <;> rfl
  have d0 : Dr n (List.replicate as.length []) 0 0 := by
    refine ⟨by simp; omega, fun i _ _ => by rw [wz]; exact List.nodup_nil, fun i _ _ j hj => ?_, fun i _ _ j hj => ?_, fun i _ _ j hj => ?_⟩ <;> (rw [wz] at hj; cases hj)
  refine ⟨b62 (by omega) (by omega), ?_⟩
  refine ForB.ofm (rng 0 n) U.int (by rw [rngUh]) (fun _ => trivial) (fun pre Γ vh' => (∃ b c d e, Γ = [some (.ref a), some (.int m), some (.int s), some (.int n), some (.int wd), some (.ref pl), b, c, d, e]) ∧ DrI vh a pl as n pre.length 0 vh')
    ⟨⟨_, _, _, _, rfl⟩, ns2, _, s2, hpl1, l0, d0⟩ (fun Γ' w1 ⟨⟨b, c, d, e, hΓ⟩, ns3, W, s3, hp3, l3, d3⟩ => ?_) fun pre i suf Γ' w1 epre ⟨⟨b, c, d, e, hΓ⟩, ns3, W, s3, hp3, l3, d3⟩ => ?_
  · -- the rows are mixed
    subst hΓ
    simp [ltV, leV, gtV, geV, sumV, maxV, minV, allV, anyV, sortV, sNext, sSeq, sNever, sBreak, sDrop, sRet, sRetN, sIf, gN, gNl, gCn, gTp, gSb, sAsg, sPar, vVar, vC, vNil, vCons, vTup, vLst, v2, addV, intsV, ints0V, mulV, vNeg, eqV', neV', inV', isV, VL.isNon, vTest, vChain, vAnd, vOr, vNot, vAndV, vOrV, vNotV, vIf, ixV, vNo, vPart, vSl, sliceV, vLc_eq, vDc_eq, sFor_eq, sWhile_eq, iSq, iRg1, iRg2, iEn, iZp, vCB, lenV, listV, tupleV, intV1, absV1, ofInts, ofBls, two, vIsi, vM, vM0, appendV, extendV, popV, popAtV, vIndex, vDnew, vCall, sRaise, vYes, vRev, getV, startV, wipeV, asSq_of hp3]
    have v := d3.vw (by omega)
    have hWl : W.length = as.length := l3.len.symm
    refine ⟨MxI vh a pl as W, ⟨[], rfl, rfl, fun j row h => by simp at h, ns3, s3, hp3, l3⟩, fun k acc vh' ⟨Y, e1, e2, hY, ns4, s4, hp4, l4⟩ hk => ⟨asSq_of hp4, fun hlast => ?_, fun u hu => ?_⟩⟩
    · intro q hq
      simp only [asL_new]
      rw [e1]
      have hlast : k = as.length := by simpa using hlast
      exact RD.of (r Y ns4 (vw_perm v (by omega) hY)) (s4.put' hq)
    · have hu : (as.map U.ref)[k]? = some u := hu
      rw [List.getElem?_map] at hu
      obtain ⟨x, hx, rfl⟩ := Option.map_eq_some_iff.1 hu
      have hklt := (List.getElem?_eq_some_iff.1 hx).1
      refine ⟨by omega, ?_⟩
      have hat := l4.at_ k x hx
      have hwl := v.wl (i := (k : Int)) (by omega) (by omega)
      simp [ltV, leV, gtV, geV, sumV, maxV, minV, allV, anyV, sortV, sNext, sSeq, sNever, sBreak, sDrop, sRet, sRetN, sIf, gN, gNl, gCn, gTp, gSb, sAsg, sPar, vVar, vC, vNil, vCons, vTup, vLst, v2, addV, intsV, ints0V, mulV, vNeg, eqV', neV', inV', isV, VL.isNon, vTest, vChain, vAnd, vOr, vNot, vAndV, vOrV, vNotV, vIf, ixV, vNo, vPart, vSl, sliceV, vLc_eq, vDc_eq, sFor_eq, sWhile_eq, iSq, iRg1, iRg2, iEn, iZp, vCB, lenV, listV, tupleV, intV1, absV1, ofInts, ofBls, two, vIsi, vM, vM0, appendV, extendV, popV, popAtV, vIndex, vDnew, vCall, sRaise, vYes, vRev, getV, startV, wipeV]
      refine f_mixed (s4 _ _ vput_same) hat (by omega) fun ys ns5 hperm q hq => ?_
      simp only [asL_new]
      have hna : x ∈ as := List.mem_of_getElem? hx
      refine ⟨Y ++ [ys], by rw [e1]; simp [tupI], by simp [e2], fun j row hj => ?_, ns5, (subA s4).put' hq, ?_, ?_⟩
      · rw [List.getElem?_append] at hj
        split at hj
        · exact hY j row hj
        · have : j - Y.length = 0 := by
            rcases Nat.eq_zero_or_pos (j - Y.length) with h | h
            · exact h
            · rw [List.getElem?_eq_none (by simp; omega)] at hj; cases hj
          rw [this] at hj
          cases hj
          have : j = k := by omega
          subst this
          exact hperm
      · refine putO ?_ hq
        rw [vput_ne (nav pl hpl0).1]; exact hp4
      · exact (l4.new nas).sub ((SubH.refl _).put' hq)
  · -- a row of pairs
    subst hΓ
    have hi := mem_rng.1 (show i ∈ rng 0 n by rw [epre]; simp)
    have hii : i = (pre.length : Int) := by
      have hlt : pre.length < n.toNat := by have := congrArg List.length epre; simp [rng_len] at this; omega
      have : (rng 0 n)[pre.length]? = some i := by rw [epre]; simp
      simp [rng, List.getElem?_map, List.getElem?_range, hlt] at this
      omega
    simp [ltV, leV, gtV, geV, sumV, maxV, minV, allV, anyV, sortV, sNext, sSeq, sNever, sBreak, sDrop, sRet, sRetN, sIf, gN, gNl, gCn, gTp, gSb, sAsg, sPar, vVar, vC, vNil, vCons, vTup, vLst, v2, addV, intsV, ints0V, mulV, vNeg, eqV', neV', inV', isV, VL.isNon, vTest, vChain, vAnd, vOr, vNot, vAndV, vOrV, vNotV, vIf, ixV, vNo, vPart, vSl, sliceV, vLc_eq, vDc_eq, sFor_eq, sWhile_eq, iSq, iRg1, iRg2, iEn, iZp, vCB, lenV, listV, tupleV, intV1, absV1, ofInts, ofBls, two, vIsi, vM, vM0, appendV, extendV, popV, popAtV, vIndex, vDnew, vCall, sRaise, vYes, vRev, getV, startV, wipeV]
    refine ⟨b62 (by omega) (by omega), b62 (by omega) (by omega), ?_⟩
    rw [rngU_eq]
    refine ForB.ofm (rng (i + 1) n) U.int rfl (fun _ => trivial) (fun pre2 Γ vh' => (∃ b d e, Γ = [some (.ref a), some (.int m), some (.int s), some (.int n), some (.int wd), some (.ref pl), b, some (.int i), d, e]) ∧ DrI vh a pl as n i (i + 1 + pre2.length) vh')
      ⟨⟨_, _, _, rfl⟩, ns3, W, s3, hp3, l3, d3.mono fun x y hxy hy h => by rw [hii]; omega⟩ (fun Γ' w2' ⟨⟨b2, d2, e2, hΓ⟩, ns4, W4, s4, hp4, l4, d4⟩ => ?_) fun pre2 o suf2 Γ' w2' epre2 ⟨⟨b2, d2, e2, hΓ⟩, ns4, W4, s4, hp4, l4, d4⟩ => ?_
    · subst hΓ
      refine ⟨⟨_, _, _, _, rfl⟩, ns4, W4, s4, hp4, l4, d4.mono fun x y hxy hy h => ?_⟩
      rw [rng_len] at h
      omega
    · subst hΓ
      have ho := mem_rng.1 (show o ∈ rng (i + 1) n by rw [epre2]; simp)
      have hoo : o = i + 1 + (pre2.length : Int) := by
        have hlt : pre2.length < (n - (i + 1)).toNat := by have := congrArg List.length epre2; simp [rng_len] at this; omega
        have : (rng (i + 1) n)[pre2.length]? = some o := by rw [epre2]; simp
        simp [rng, List.getElem?_map, List.getElem?_range, hlt] at this
        omega
      have hsk : ∀ (vh' : VH) (ns' : List Int), SubH (vput vh a (tpU ns')) vh' → vh' pl = some (.lst (as.map U.ref)) → LS vh' as W4 → DrI vh a pl as n i (i + 1 + ((pre2.length : Int) + 1)) vh' := fun vh' ns' a1 a2 a3 => ⟨ns', W4, a1, a2, a3, d4.mono fun x y hxy hy h => by omega⟩
      simp [ltV, leV, gtV, geV, sumV, maxV, minV, allV, anyV, sortV, sNext, sSeq, sNever, sBreak, sDrop, sRet, sRetN, sIf, gN, gNl, gCn, gTp, gSb, sAsg, sPar, vVar, vC, vNil, vCons, vTup, vLst, v2, addV, intsV, ints0V, mulV, vNeg, eqV', neV', inV', isV, VL.isNon, vTest, vChain, vAnd, vOr, vNot, vAndV, vOrV, vNotV, vIf, ixV, vNo, vPart, vSl, sliceV, vLc_eq, vDc_eq, sFor_eq, sWhile_eq, iSq, iRg1, iRg2, iEn, iZp, vCB, lenV, listV, tupleV, intV1, absV1, ofInts, ofBls, two, vIsi, vM, vM0, appendV, extendV, popV, popAtV, vIndex, vDnew, vCall, sRaise, vYes, vRev, getV, startV, wipeV]
      refine f_take (s4 _ _ vput_same) (by omega) fun t ns5 ht0 ht1 => ?_
      have s5 : SubH (vput vh a (tpU ns5)) (vput w2' a (tpU ns5)) := subA s4
      have hp5 : vput w2' a (tpU ns5) pl = some (.lst (as.map U.ref)) := by rw [vput_ne (nav pl hpl0).1]; exact hp4
      have l5 : LS (vput w2' a (tpU ns5)) as W4 := l4.new nas
      generalize vput w2' a (tpU ns5) = w5 at *
      have hsk := hsk w5 ns5 s5 hp5 l5
      have hWl : W4.length = as.length := l4.len.symm
      obtain ⟨x, hx⟩ : ∃ x, as[i.toNat]? = some x := ⟨_, List.getElem?_eq_getElem (by omega)⟩
      obtain ⟨y, hy⟩ : ∃ y, as[o.toNat]? = some y := ⟨_, List.getElem?_eq_getElem (by omega)⟩
      have go : ((xs : List U) → asL S w5 (.ref x) = some xs → True) := fun _ _ => trivial
      have hxa := l5.at_ i.toNat x hx
      rw [Int.toNat_of_nonneg hi.1] at hxa
      have hne : x ≠ y := fun z => by
        subst z
        obtain ⟨h1, e1⟩ := List.getElem?_eq_some_iff.1 hx
        obtain ⟨h2, e2⟩ := List.getElem?_eq_some_iff.1 hy
        have := (List.getElem_inj nd).1 (e1.trans e2.symm)
        omega
      have l6 := l5.app (o := o) nd hi.1 hx
      have s6 : SubH (vput vh a (tpU ns5)) (vput w5 x (tpU (wAt W4 i ++ [o]))) := s5.put ((nav x (h1 x (List.mem_of_getElem? hx)).1).2 ns5)
      have hp6 : vput w5 x (tpU (wAt W4 i ++ [o])) pl = some (.lst (as.map U.ref)) := by
        rw [vput_ne (fun z => npl (by rw [z]; exact List.mem_of_getElem? hx))]; exact hp5
      have v4 := d4.vw (by omega)
      have hw1 := v4.wl (i := i) (by omega) (by omega)
      have hw2 := v4.wl (i := o) (by omega) (by omega)
      have hdr := d4.add hi.1 (show i < i + 1 + (pre2.length : Int) by omega) (by omega)
      rw [← hoo] at hdr
      have e62 : wAt (W4.set i.toNat (wAt W4 i ++ [o])) o = wAt W4 o := by rw [wAt_set hi.1 (by omega) (by omega), if_neg (by omega)]
      have hya := l6.at_ o.toNat y hy
      rw [Int.toNat_of_nonneg (by omega), e62] at hya
      have l7 := l6.app (o := i) nd (show 0 ≤ o by omega) hy
      rw [e62] at l7 hdr
      have s7 : SubH (vput vh a (tpU ns5)) (vput (vput w5 x (tpU (wAt W4 i ++ [o]))) y (tpU (wAt W4 o ++ [i]))) := s6.put ((nav y (h1 y (List.mem_of_getElem? hy)).1).2 ns5)
      have hp7 : vput (vput w5 x (tpU (wAt W4 i ++ [o]))) y (tpU (wAt W4 o ++ [i])) pl = some (.lst (as.map U.ref)) := by
        rw [vput_ne (fun z => npl (by rw [z]; exact List.mem_of_getElem? hy))]; exact hp6
      have em : ∀ (l : List Int) (k : Int), l.map U.int ++ [U.int k] = (l ++ [k]).map U.int := fun l k => by simp
      have fin : DrI vh a pl as n i (i + 1 + ((pre2.length : Int) + 1)) (vput (vput w5 x (tpU (wAt W4 i ++ [o]))) y (tpU (wAt W4 o ++ [i]))) :=
        ⟨ns5, _, s7, hp7, l7, hdr.mono fun x y hxy hy h => by omega⟩
      have ho0 : 0 ≤ o := by omega
      by_cases c1 : 0 < t
      · by_cases c2 : 0 < wd
        · simp only [c1, c2, if_true, asSq_of hp5, at_refs hi.1 hx, asL_of hxa, ownL_of hxa, em, asSq_of hp6, at_refs ho0 hy, asL_of hya, ownL_of hya]
          exact ⟨rfl, by simp only [List.length_map]; omega, rfl, by simp only [List.length_map]; omega, fin⟩
        · by_cases c3 : (i + o).fmod 2 = 1
          · simp only [c1, c2, c3, if_true, if_false, asSq_of hp5, at_refs hi.1 hx, asL_of hxa, ownL_of hxa, em, asSq_of hp6, at_refs ho0 hy, asL_of hya, ownL_of hya]
            exact ⟨rfl, by simp only [List.length_map]; omega, rfl, by simp only [List.length_map]; omega, fin⟩
          · simp only [c1, c2, c3, if_true, if_false]
            exact hsk
      · simp only [c1, if_false]
        exact hsk
end K75

-- part B22
set_option Elab.async false
set_option linter.all false
set_option maxRecDepth 100000
set_option maxHeartbeats 1000000
/-! Plain laws, part 22: _law_bent_wishes. -/
namespace K75
open PySem PySem.Spec PyProof.Rows L2 VL LamX
theorem cut_to {α : Type} (l : List U) {i : Int} (h0 : 0 ≤ i) : cutU l none (some i) = l.take i.toNat := by
  unfold cutU
  simp only [HT.sIx, if_neg (show ¬ i < 0 by omega)]
  simp only [List.drop_zero, Nat.sub_zero]
  rw [List.take_eq_take_iff]; omega
theorem cut_from (l : List U) {i : Int} (h0 : 0 ≤ i) : cutU l (some i) none = l.drop i.toNat := by
  unfold cutU
  simp only [HT.sIx, if_neg (show ¬ i < 0 by omega)]
  rw [List.take_of_length_le (by rw [List.length_drop]; omega)]
  by_cases h : i.toNat ≤ l.length
  · rw [Nat.min_eq_left h]
  · rw [Nat.min_eq_right (by omega), List.drop_of_length_le (Nat.le_refl _), List.drop_of_length_le (by omega)]
theorem cut_put (l : List U) {i : Int} (x : U) (h0 : 0 ≤ i) (h1 : i < l.length) : cutU l none (some i) ++ [x] ++ cutU l (some (i + 1)) none = l.set i.toNat x := by
  rw [cut_to (α := U) l h0, cut_from l (by omega), List.set_eq_take_append_cons_drop, if_pos (by omega)]
  rw [show (i + 1).toNat = i.toNat + 1 from by omega]
  simp
theorem zip_at {us : List U} {q : U × Nat} (h : q ∈ us.zipIdx) : q.2 < us.length ∧ us[q.2]? = some q.1 := by
  have := zip_mem h
  exact ⟨(List.getElem?_eq_some_iff.1 this).1, this⟩
theorem find_at {us : List U} {f : U × Nat → Bool} {i : Nat} {x : U} (hx : us[i]? = some x) (hf : f (x, i) = true) (hb : ∀ j y, j < i → us[j]? = some y → f (y, j) = false) : us.zipIdx.find? f = some (x, i) := by
  have hi := (List.getElem?_eq_some_iff.1 hx).1
  rw [List.find?_eq_some_iff_getElem]
  refine ⟨hf, i, by simpa using hi, ?_, fun j hj => ?_⟩
  · obtain ⟨h1, e⟩ := List.getElem?_eq_some_iff.1 hx
    simp [e]
  · have hjl : j < us.length := by omega
    have := hb j us[j] hj (List.getElem?_eq_getElem hjl)
    simp [this]
/-- one list bent -/
theorem bad_at {W : List (List Int)} (v : VW W) {i : Int} (h0 : 0 ≤ i) (h1 : i < W.length) {x : U} (hx : listOf i W.length x = false) : badU (.tup ((W.map tupI).set i.toNat x)) = some (.int i) := by
  have h8 := v.len
  unfold badU
  rw [if_pos (by simp [tupOf, isT, itemsU]; omega)]
  simp only [itemsU, List.length_set, List.length_map]
  rw [find_at (i := i.toNat) (x := x) (by rw [List.getElem?_set_self (by simp; omega)]) (by simp only [Int.toNat_of_nonneg h0]; rw [hx]; rfl) fun j y hj hy => ?_]
  · simp only [Int.toNat_of_nonneg h0]
  · rw [List.getElem?_set_ne (by omega), List.getElem?_map] at hy
    obtain ⟨l, hl, rfl⟩ := Option.map_eq_some_iff.1 hy
    have : l = wAt W (j : Nat) := by simp [wAt, List.getD_eq_getElem?_getD, hl]
    subst this
    show (!listOf (j : Nat) _ _) = false
    rw [listOf_ok v (by omega) (by omega)]; rfl
theorem kn_W {S : SS} {vh : VH} (W : List (List Int)) : ∀ x ∈ W.map tupI, Kn S vh x ∧ ∀ y ∈ itemsU x, Kn S vh y := fun x hx => by
  obtain ⟨l, _, rfl⟩ := List.mem_map.1 hx
  refine ⟨kn_tup, fun y hy => ?_⟩
  obtain ⟨i, _, rfl⟩ := List.mem_map.1 (show y ∈ l.map U.int from hy)
  exact kn_int
theorem bd_at {S : SS} {vh : VH} {W : List (List Int)} (v : VW W) {i : Int} (h0 : 0 ≤ i) (h1 : i < W.length) {x : U} (kx : Kn S vh x) (ki : ∀ y ∈ itemsU x, Kn S vh y) (hx : listOf i W.length x = false) : Bd S vh (.tup ((W.map tupI).set i.toNat x)) (.int i) := by
  refine ⟨kn_tup, fun _ z hz => ?_, bad_at v h0 h1 hx⟩
  rcases List.mem_or_eq_of_mem_set (show z ∈ (W.map tupI).set i.toNat x from hz) with h | rfl
  · exact kn_W W z h
  · exact ⟨kx, ki⟩
/-- rows that are well formed but not mutual -/
theorem bad_mut {W : List (List Int)} (h8 : W.length ≤ 8) (hnd : ∀ i : Int, 0 ≤ i → i < W.length → (wAt W i).Nodup) (hrg : ∀ i : Int, 0 ≤ i → i < W.length → ∀ j ∈ wAt W i, 0 ≤ j ∧ j < W.length ∧ j ≠ i) {i j : Int} (h0 : 0 ≤ i) (h1 : i < W.length) (hj : j ∈ wAt W i) (hn : i ∉ wAt W j) : badU (WU W) = some (.str "mutual") := by
  have hj2 := hrg i h0 h1 j hj
  unfold badU
  rw [if_pos (by simp [tupOf, isT, itemsU]; omega)]
  rw [show itemsU (WU W) = W.map tupI from rfl, List.length_map]
  rw [List.find?_eq_none.2 fun q hq => by
    obtain ⟨a, b⟩ := zip_W hq
    have hr := hrg (q.2 : Nat) (by omega) (by omega)
    have hl : ((wAt W (q.2 : Nat)).length : Int) ≤ W.length - 1 := by
      have := nd_sub (l := wAt W (q.2 : Nat)) (m := (rng 0 W.length).erase (q.2 : Nat)) (hnd _ (by omega) (by omega)) fun x hx => (List.mem_erase_of_ne (hr x hx).2.2).2 (mem_rng.2 ⟨(hr x hx).1, (hr x hx).2.1⟩)
      rw [List.length_erase_of_mem (mem_rng.2 ⟨by omega, by omega⟩), rng_len] at this
      omega
    have : listOf (q.2 : Nat) W.length (tupI (wAt W (q.2 : Nat))) = true := by
      simp only [listOf, tupI, tupOf, isT, itemsU, List.length_map, inU_ints, intsU_map, Bool.true_and, Bool.and_eq_true, decide_eq_true_eq, Bool.not_eq_true', decide_eq_false_iff_not, List.all_map]
      refine ⟨⟨by omega, hl⟩, List.all_eq_true.2 fun x hx => ?_, fun hi => (hr _ hi).2.2 rfl, hnd _ (by omega) (by omega)⟩
      have := hr x hx
      simp [amongU]; omega
    rw [b, this]; simp]
  show (if _ then _ else _) = _
  rw [if_neg]
  intro hall
  have hq : ((tupI (wAt W i), i.toNat) : U × Nat) ∈ (W.map tupI).zipIdx := List.mem_zipIdx_iff_getElem?.2 (by
    show (W.map tupI)[i.toNat]? = _
    rw [List.getElem?_map, wAt_get h0 h1]; rfl)
  have := List.all_eq_true.1 hall _ hq
  unfold mutOf at this
  simp only [tupI, itemsU, intsU_map] at this
  have := List.all_eq_true.1 this j hj
  have e2 : (W.map tupI).getD j.toNat .non = tupI (wAt W j) := by
    have : j.toNat < W.length := by omega
    simp [wAt, List.getD_eq_getElem?_getD, this]
  have e3 : (List.map (fun ns => U.tup (List.map U.int ns)) W).getD j.toNat .non = tupI (wAt W j) := e2
  simp only [show (List.map tupI W).getD j.toNat .non = tupI (wAt W j) from e2, e3, tupI, itemsU, inU_ints, Int.toNat_of_nonneg h0, decide_eq_true_eq] at this
  exact hn this
theorem bd_mut {S : SS} {vh : VH} {W : List (List Int)} (h : badU (WU W) = some (.str "mutual")) : Bd S vh (WU W) (.str "mutual") := ⟨kn_tup, fun _ x hx => kn_W W x hx, h⟩
theorem set_W (W : List (List Int)) (i : Nat) (l : List Int) : (W.map tupI).set i (tupI l) = (W.set i l).map tupI := by rw [List.map_set]
/-- a row with one more, or one less -/
theorem mut_add {W : List (List Int)} (v : VW W) {i o : Int} (h0 : 0 ≤ i) (h1 : i < W.length) (g0 : 0 ≤ o) (g1 : o < W.length) (hne : o ≠ i) (hn : o ∉ wAt W i) : badU (WU (W.set i.toNat (wAt W i ++ [o]))) = some (.str "mutual") := by
  have e : ∀ j : Int, 0 ≤ j → wAt (W.set i.toNat (wAt W i ++ [o])) j = if j = i then wAt W i ++ [o] else wAt W j := fun j hj => wAt_set h0 h1 hj
  refine bad_mut (i := i) (j := o) (by simpa using v.len) (fun j a b => ?_) (fun j a b x hx => ?_) h0 (by simpa using h1) (by rw [e i h0, if_pos rfl]; simp) ?_
  · rw [e j a]
    simp only [List.length_set] at b
    split
    · exact List.nodup_append.2 ⟨v.nd i h0 h1, by simp, fun x hx y hy z => by cases List.mem_singleton.1 hy; subst z; exact hn hx⟩
    · exact v.nd j a b
  · rw [e j a] at hx
    simp only [List.length_set] at b ⊢
    split at hx
    · rename_i c
      subst c
      rcases List.mem_append.1 hx with hx | hx
      · exact v.rg j a b x hx
      · cases List.mem_singleton.1 hx; exact ⟨g0, g1, hne⟩
    · exact v.rg j a b x hx
  · rw [e o g0, if_neg hne]
    exact fun h => hn (v.sym o g0 g1 i h)
theorem mut_del {W : List (List Int)} (v : VW W) {i o : Int} (h0 : 0 ≤ i) (h1 : i < W.length) (hm : o ∈ wAt W i) : badU (WU (W.set i.toNat ((wAt W i).filter fun x => !decide (x = o)))) = some (.str "mutual") := by
  have ho := v.rg i h0 h1 o hm
  have e : ∀ j : Int, 0 ≤ j → wAt (W.set i.toNat ((wAt W i).filter fun x => !decide (x = o))) j = if j = i then (wAt W i).filter (fun x => !decide (x = o)) else wAt W j := fun j hj => wAt_set h0 h1 hj
  refine bad_mut (i := o) (j := i) (by simpa using v.len) (fun j a b => ?_) (fun j a b x hx => ?_) ho.1 (by simpa using ho.2.1) (by rw [e o ho.1, if_neg ho.2.2]; exact v.sym i h0 h1 o hm) ?_
  · rw [e j a]
    simp only [List.length_set] at b
    split
    · exact (v.nd i h0 h1).filter _
    · exact v.nd j a b
  · rw [e j a] at hx
    simp only [List.length_set] at b ⊢
    split at hx
    · rename_i c
      subst c
      exact v.rg j a b x (List.mem_filter.1 hx).1
    · exact v.rg j a b x hx
  · rw [e i h0, if_pos rfl]
    simp
def F_bent (S : SS) : FV := fun us vh R _ => ∃ a ns W, us = [.ref a, WU W] ∧ vh a = some (tpU ns) ∧ VW W ∧ ∀ u pl ns' vh', SubH (vput vh a (tpU ns')) vh' → Bd S vh' u pl → okD 1 pl = true → R (.tup [u, pl]) vh'
theorem other_ok {n at_ t : Int} (h1 : 1 < n) (ha0 : 0 ≤ at_) (ha1 : at_ < n) (t0 : 0 ≤ t) (t1 : t < n - 1) : 0 ≤ (at_ + 1 + t).fmod n ∧ (at_ + 1 + t).fmod n < n ∧ (at_ + 1 + t).fmod n ≠ at_ := by
  have f0 := Int.fmod_nonneg_of_pos (at_ + 1 + t) (show 0 < n by omega)
  have f1 := Int.fmod_lt_of_pos (at_ + 1 + t) (show 0 < n by omega)
  refine ⟨f0, f1, fun h => ?_⟩
  have := Int.mul_fdiv_add_fmod (at_ + 1 + t) n
  rw [h] at this
  generalize (at_ + 1 + t).fdiv n = q at this
  by_cases c : q ≤ 0
  · have : n * q ≤ 0 := Int.mul_nonpos_of_nonneg_of_nonpos (by omega) c
    omega
  · have : n * 1 ≤ n * q := Int.mul_le_mul_of_nonneg_left (by omega) (by omega)
    omega
end K75

-- part B23
set_option Elab.async false
set_option linter.all false
set_option maxRecDepth 100000
set_option maxHeartbeats 2000000
/-! Plain laws, part 23: _law_bent_wishes, the walk. -/
namespace K75
open PySem PySem.Spec PyProof.Rows L2 VL LamX
theorem atI_nat {us : List U} {r : Int} {k : Nat} {u : U} (h : r = k) (e : us[k]? = some u) : L2.atI us r = some u := by
  subst h
  rw [at_nat (by omega) (by have := (List.getElem?_eq_some_iff.1 e).1; omega), Int.toNat_natCast]
  exact e
def bent7 (p1 p2 : Addr) : List U := [.tup [.non, .non], .tup [.ref p1, .non], .tup [.ref p2, .non], .tup [.tupw [.tup [], .tup [], .tup [], .tup [], .tup [], .tup [], .tup [], .tup [], .tup []], .non], .tup [.int 5, .non], .tup [.str "", .non], .tup [.tupw [.non, .non, .non, .non, .non, .non, .non, .non, .non], .non]]
theorem if2 {c d : Prop} [Decidable c] [Decidable d] {P Q : Prop} (h1 : c ∨ d → P) (h2 : ¬ (c ∨ d) → Q) : if c then P else if d then P else Q := by
  by_cases hc : c
  · rw [if_pos hc]; exact h1 (.inl hc)
  · rw [if_neg hc]
    by_cases hd : d
    · rw [if_pos hd]; exact h1 (.inr hd)
    · rw [if_neg hd]; exact h2 fun z => z.elim hc hd
theorem ifA2 {c d : Prop} [Decidable c] [Decidable d] {P Q : Prop} (h1 : c → d → P) (h2 : Q) : if c then (if d then P else Q) else Q := by
  by_cases hc : c
  · rw [if_pos hc]
    by_cases hd : d
    · rw [if_pos hd]; exact h1 hc hd
    · rw [if_neg hd]; exact h2
  · rw [if_neg hc]; exact h2
theorem cut_put' (l : List U) {i : Int} (x : U) (h0 : 0 ≤ i) (h1 : i < l.length) : cutU l none (some i) ++ x :: cutU l (some (i + 1)) none = l.set i.toNat x := by
  rw [← cut_put l x h0 h1]; simp
theorem cut_le (l : List U) (lo hi : Option Int) : (cutU l lo hi).length ≤ l.length := by
  unfold cutU
  simp only [List.length_take, List.length_drop]
  omega
theorem lst_ref {vh : VH} {p : Addr} {us : List U} {S : SS} (h : vh p = some (.lst us)) : Kn S vh (.ref p) := ⟨"list", by simp [tyU, h], by simp⟩
theorem dk_ref {vh : VH} {p : Addr} {us : List (Key × U)} {S : SS} (h : vh p = some (.dK us)) : Kn S vh (.ref p) := ⟨"dict", by simp [tyU, h], by simp⟩
theorem bd_non {S : SS} {vh : VH} {u : U} (k : Kn S vh u) (h : tupOf 0 8 u = false) : Bd S vh u .non := ⟨k, fun z => (by rw [h] at z; cases z), by simp [badU, h]⟩
/-- one of these, put in somebody's place, is told there -/
structure GoodX (S : SS) (vh : VH) (t n : Int) (x : U) : Prop where
  kn : Kn S vh x
  its : ∀ y ∈ itemsU x, Kn S vh y
  bad : listOf t n x = false
theorem GoodX.sub {S : SS} {vh vh' : VH} {t n : Int} {x : U} (g : GoodX S vh t n x) (s : SubH vh vh') : GoodX S vh' t n x := ⟨g.kn.sub s, fun y hy => (g.its y hy).sub s, g.bad⟩
theorem Kn.tape {S : SS} {w : VH} {a : Addr} {ns ns' : List Int} {u : U} (k : Kn S w u) (ha : w a = some (tpU ns)) : Kn S (vput w a (tpU ns')) u := by
  obtain ⟨n, h1, h2⟩ := k
  refine ⟨n, ?_, h2⟩
  cases u <;> try exact h1
  rename_i p
  simp only [tyU] at h1 ⊢
  by_cases e : p = a
  · subst e
    rw [ha] at h1
    rw [vput_same]
    exact h1
  · rw [vput_ne e]; exact h1
theorem GoodX.tape {S : SS} {w : VH} {a : Addr} {ns ns' : List Int} {t n : Int} {x : U} (g : GoodX S w t n x) (ha : w a = some (tpU ns)) : GoodX S (vput w a (tpU ns')) t n x := ⟨g.kn.tape ha, fun y hy => (g.its y hy).tape ha, g.bad⟩
theorem bent_fin {S : SS} {a : Addr} {W : List (List Int)} {t : Int} {pl : Addr} {xs : List U} {w : VH} {R : U → VH → Prop} {D : EndV} {Z : XV} {o2 o3 o4 o6 o7 : Option U} {vh : VH} {ns : List Int} (v : VW W) (h0 : 0 ≤ t) (h1 : t < W.length) (hD : D.rt = RD R) (ha : w a = some (tpU ns)) (hs : SubH (vput vh a (tpU ns)) w)
    (hp : w pl = some (.lst xs)) (hpa : pl ≠ a) (hx : ∀ x ∈ xs, GoodX S w t W.length x) (hl : 0 < xs.length) (hl2 : xs.length ≤ 1000) (r : ∀ u p ns' vh', SubH (vput vh a (tpU ns')) vh' → Bd S vh' u p → okD 1 p = true → RD R (.tup [u, p]) vh') :
    sLater (sSeq (sRet (vTup (vCons (v2 S addV (v2 S addV (vSl S (vVar 1) vNo (vPart (vVar 5))) (vTup (vCons (v2 S ixV (vVar 8) (vCall F_take 2 (vCons (vVar 0) (vCons (vCB S lenV (vCons (vVar 8) vNil)) vNil)))) vNil))) (vSl S (vVar 1) (vPart (v2 S addV (vVar 5) (vC (.int 1)))) vNo)) (vCons (vVar 5) vNil)))) sNext)
      D Z [some (.ref a), some (WU W), o2, o3, o4, some (.int t), o6, o7, some (.ref pl)] w := by
  have hz := sz1k
  have h8 := v.len
  refine sLater_i ?_
  simp [ltV, leV, gtV, geV, sumV, maxV, minV, allV, anyV, sortV, sNext, sSeq, sNever, sBreak, sDrop, sRet, sRetN, sIf, gN, gNl, gCn, gTp, gSb, sAsg, sPar, vVar, vC, vNil, vCons, vTup, vLst, v2, addV, intsV, ints0V, mulV, vNeg, eqV', neV', inV', isV, VL.isNon, vTest, vChain, vAnd, vOr, vNot, vAndV, vOrV, vNotV, vIf, ixV, vNo, vPart, vSl, sliceV, vLc_eq, vDc_eq, sFor_eq, sWhile_eq, iSq, iRg1, iRg2, iEn, iZp, vCB, lenV, listV, tupleV, intV1, absV1, ofInts, ofBls, two, vIsi, vM, vM0, appendV, extendV, popV, popAtV, vIndex, vDnew, vCall, sRaise, vYes, vRev, getV, startV, wipeV, asSq_of hp]
  refine f_take ha (by omega) fun k ns2 hk0 hk1 => ?_
  have hp2 : vput w a (tpU ns2) pl = some (.lst xs) := by rw [vput_ne hpa]; exact hp
  obtain ⟨x, hx'⟩ : ∃ x, xs[k.toNat]? = some x := ⟨_, List.getElem?_eq_getElem (by omega)⟩
  have hlo := cut_le (W.map tupI) none (some t)
  have hhi := cut_le (W.map tupI) (some (t + 1)) none
  rw [List.length_map] at hlo hhi
  have g := (hx x (List.mem_of_getElem? hx')).tape (ns' := ns2) ha
  have fin := r _ _ ns2 (vput w a (tpU ns2)) (subA hs) (bd_at v h0 h1 g.kn g.its g.bad) rfl
  simp only [asSq_of hp2, at_nat hk0 (by omega : k < xs.length), hx']
  rw [hD]
  rw [← cut_put' _ _ h0 (by simpa using h1)] at fin
  refine ⟨by omega, by first | omega | (simp; omega), by first | omega | (simp; omega), by omega, ?_⟩
  simpa using fin
def bentR (t n : Int) (row c : List Int) (q p p1 p2 p3 : Addr) : List U := [.non, .ref q, .tup [.int t], .tup [.int n], .tup [.int (-1)], .tup [.bl true], .tup [.non], .tup [.str "0"], .tup [.ref p], .tup [.int 0, .ref p1], .tup [.ref p2], .tup (row.map U.int ++ (c.map U.int ++ [.int t])), .int 5, .ref p3]
theorem inU_at {i : Int} {us ws : List U} : inU (.int i) (us ++ (ws ++ [.int i])) = true := by simp [inU, VL.eqU]
theorem good_R {S : SS} {w : VH} {t n : Int} {row c : List Int} {q p p1 p2 p3 : Addr} {xs : List U} (h0 : 0 ≤ t) (hq : w q = some (.lst xs)) (hp : w p = some (.lst [])) (hp1 : w p1 = some (.lst [.int 1])) (hp2 : w p2 = some (.dK [])) (hp3 : w p3 = some (.dK [])) :
    ∀ x ∈ bentR t n row c q p p1 p2 p3, GoodX S w t n x := by
  have no : ∀ {y : U}, y ∈ itemsU (.non) → Kn S w y := fun h => by cases h
  have kt : ∀ us : List U, Kn S w (.tup us) := fun us => kn_tup
  have one : ∀ (us : List U) (x : U), us = [x] → Kn S w x → listOf t n (.tup us) = false → GoodX S w t n (.tup us) := fun us x e k h => ⟨kn_tup, fun y hy => by subst e; cases List.mem_singleton.1 (show y ∈ [x] from hy); exact k, h⟩
  intro x hx
  simp only [bentR, List.mem_cons, List.not_mem_nil, or_false] at hx
  rcases hx with rfl | rfl | rfl | rfl | rfl | rfl | rfl | rfl | rfl | rfl | rfl | rfl | rfl | rfl
  · exact ⟨⟨"NoneType", rfl, by simp⟩, fun y hy => (by cases hy), by simp [listOf, tupOf, isT]⟩
  · exact ⟨lst_ref hq, fun y hy => (by cases hy), by simp [listOf, tupOf, isT]⟩
  · exact one _ _ rfl kn_int (by simp [listOf, itemsU, inU, VL.eqU])
  · exact one _ _ rfl kn_int (by simp [listOf, itemsU, amongU]; omega)
  · exact one _ _ rfl kn_int (by simp [listOf, itemsU, amongU])
  · exact one _ _ rfl ⟨"bool", rfl, by simp⟩ (by simp [listOf, itemsU, amongU])
  · exact one _ _ rfl ⟨"NoneType", rfl, by simp⟩ (by simp [listOf, itemsU, amongU])
  · exact one _ _ rfl ⟨"str", rfl, by simp⟩ (by simp [listOf, itemsU, amongU])
  · exact one _ _ rfl (lst_ref hp) (by simp [listOf, itemsU, amongU])
  · exact ⟨kn_tup, fun y hy => by
      have hy : y = .int 0 ∨ y = .ref p1 := by simpa [itemsU] using hy
      rcases hy with rfl | rfl
      · exact kn_int
      · exact lst_ref hp1, by simp [listOf, itemsU, amongU]⟩
  · exact one _ _ rfl (dk_ref hp2) (by simp [listOf, itemsU, amongU])
  · refine ⟨kn_tup, fun y hy => ?_, ?_⟩
    · have hy : y ∈ row.map U.int ∨ y ∈ c.map U.int ∨ y = .int t := by simpa [itemsU] using hy
      rcases hy with h | h | rfl
      · obtain ⟨i, _, rfl⟩ := List.mem_map.1 h; exact kn_int
      · obtain ⟨i, _, rfl⟩ := List.mem_map.1 h; exact kn_int
      · exact kn_int
    · simp only [listOf, itemsU, inU_at]; simp
  · exact ⟨kn_int, fun y hy => (by cases hy), by simp [listOf, tupOf, isT]⟩
  · exact ⟨dk_ref hp3, fun y hy => (by cases hy), by simp [listOf, tupOf, isT]⟩
abbrev rowV (S : SS) : TV := vIf (vTest (v2 S neV' (v2 S ixV (vVar 1) (vVar 5)) (vTup vNil))) (v2 S ixV (vVar 1) (vVar 5)) (vTup (vCons (vVar 6) vNil))
def rowO (W : List (List Int)) (t o : Int) : List Int := if wAt W t = [] then [o] else wAt W t
theorem rowV_ok {S : SS} {W : List (List Int)} {t o : Int} {Γ : List (Option U)} {vh : VH} {R : U → VH → Prop} {Z : XV} (h1 : Γ[1]? = some (some (WU W))) (h5 : Γ[5]? = some (some (.int t))) (h6 : Γ[6]? = some (some (.int o))) (atW : L2.atI (W.map tupI) t = some (tupI (wAt W t))) (h : R (.tup ((rowO W t o).map U.int)) vh) : rowV S Γ vh R Z := by
  have hz := sz1k
  simp only [rowV, ltV, leV, gtV, geV, sumV, maxV, minV, allV, anyV, sortV, sNext, sSeq, sNever, sBreak, sDrop, sRet, sRetN, sIf, gN, gNl, gCn, gTp, gSb, sAsg, sPar, vVar, vC, vNil, vCons, vTup, vLst, v2, addV, intsV, ints0V, mulV, vNeg, eqV', neV', inV', isV, VL.isNon, vTest, vChain, vAnd, vOr, vNot, vAndV, vOrV, vNotV, vIf, ixV, vNo, vPart, vSl, sliceV, vLc_eq, vDc_eq, sFor_eq, sWhile_eq, iSq, iRg1, iRg2, iEn, iZp, vCB, lenV, listV, tupleV, intV1, absV1, ofInts, ofBls, two, vIsi, vM, vM0, appendV, extendV, popV, popAtV, vIndex, vDnew, vCall, sRaise, vYes, vRev, getV, startV, wipeV, h1, h5, h6, asSq_tup, atW]
  refine ⟨by simp, ?_⟩
  refine eqR_pure rfl rfl (by simp [tupI, okD, okDs_ints]) (by simp [okD, okDs]) ?_
  unfold rowO at h
  by_cases c : wAt W t = []
  · rw [if_pos c] at h
    simp [tupI, VL.eqU, eqUs_nil, c]
    exact ⟨by omega, h⟩
  · rw [if_neg c] at h
    simp [tupI, VL.eqU, eqUs_nil, c]
    exact h
theorem cut_last {l : List Int} (h : l ≠ []) : ∃ x ∈ l, cutU (l.map U.int) (some (-1)) none = [.int x] := by
  have hp := List.length_pos_iff.2 h
  have e : cutU (l.map U.int) (some (-1)) none = (l.map U.int).drop (l.length - 1) := by
    unfold cutU
    simp only [HT.sIx, List.length_map, show ((-1 : Int) < 0) from by decide, if_true]
    rw [show (-1 + (l.length : Int)).toNat = l.length - 1 from by omega]
    exact List.take_of_length_le (by simp)
  rw [e, ← List.map_drop]
  have hl : l.length - 1 < l.length := by omega
  refine ⟨l[l.length - 1], List.getElem_mem hl, ?_⟩
  rw [List.drop_eq_getElem_cons hl, List.drop_of_length_le (by omega)]
  rfl
theorem good_two {S : SS} {w : VH} {t n o : Int} : GoodX S w t n (.tup [.int o, .int o]) := ⟨kn_tup, fun y hy => (by
  have hy : y = .int o := by simpa [itemsU] using hy
  subst hy; exact kn_int), by simp [listOf, itemsU, intsU]⟩
theorem good_last {S : SS} {w : VH} {t n x : Int} {l : List Int} (h : x ∈ l) : GoodX S w t n (.tup (l.map U.int ++ [.int x])) := by
  have e : l.map U.int ++ [.int x] = (l ++ [x]).map U.int := by simp
  rw [e]
  refine ⟨kn_tup, fun y hy => ?_, ?_⟩
  · obtain ⟨i, _, rfl⟩ := List.mem_map.1 (show y ∈ (l ++ [x]).map U.int from hy)
    exact kn_int
  · simp only [listOf, itemsU, intsU_map]
    have : ¬ (l ++ [x]).Nodup := fun z => (List.nodup_append.1 z).2.2 x h x (by simp) rfl
    simp [this]
theorem b_bent {S : SS} : BodyV (F_bent S) 9 2 (t__law_bent_wishes S F_take) := by
  rintro us vh R Z hl ⟨a, ns, W, rfl, ha, v, r⟩
  clear hl
  have hz := sz1k
  have h8 := v.len
  simp only [t__law_bent_wishes]
  simp [ltV, leV, gtV, geV, sumV, maxV, minV, allV, anyV, sortV, sNext, sSeq, sNever, sBreak, sDrop, sRet, sRetN, sIf, gN, gNl, gCn, gTp, gSb, sAsg, sPar, vVar, vC, vNil, vCons, vTup, vLst, v2, addV, intsV, ints0V, mulV, vNeg, eqV', neV', inV', isV, VL.isNon, vTest, vChain, vAnd, vOr, vNot, vAndV, vOrV, vNotV, vIf, ixV, vNo, vPart, vSl, sliceV, vLc_eq, vDc_eq, sFor_eq, sWhile_eq, iSq, iRg1, iRg2, iEn, iZp, vCB, lenV, listV, tupleV, intV1, absV1, ofInts, ofBls, two, vIsi, vM, vM0, appendV, extendV, popV, popAtV, vIndex, vDnew, vCall, sRaise, vYes, vRev, getV, startV, wipeV]
  refine f_take ha (by omega) fun wd ns1 hw0 hw1 => ?_
  have r : ∀ u pl ns' vh', SubH (vput vh a (tpU ns')) vh' → Bd S vh' u pl → okD 1 pl = true → RD R (.tup [u, pl]) vh' := fun u pl ns' vh' h1 h2 h3 => RD.of (r u pl ns' vh' h1 h2 h3) (.refl _)
  have s0 : SubH (vput vh a (tpU ns1)) (vput vh a (tpU ns1)) := .refl _
  have ha1 : vput vh a (tpU ns1) a = some (tpU ns1) := vput_same
  generalize hv1 : vput vh a (tpU ns1) = w1 at *
  refine sLater_i ?_
  simp [ltV, leV, gtV, geV, sumV, maxV, minV, allV, anyV, sortV, sNext, sSeq, sNever, sBreak, sDrop, sRet, sRetN, sIf, gN, gNl, gCn, gTp, gSb, sAsg, sPar, vVar, vC, vNil, vCons, vTup, vLst, v2, addV, intsV, ints0V, mulV, vNeg, eqV', neV', inV', isV, VL.isNon, vTest, vChain, vAnd, vOr, vNot, vAndV, vOrV, vNotV, vIf, ixV, vNo, vPart, vSl, sliceV, vLc_eq, vDc_eq, sFor_eq, sWhile_eq, iSq, iRg1, iRg2, iEn, iZp, vCB, lenV, listV, tupleV, intV1, absV1, ofInts, ofBls, two, vIsi, vM, vM0, appendV, extendV, popV, popAtV, vIndex, vDnew, vCall, sRaise, vYes, vRev, getV, startV, wipeV]
  refine if2 (fun c0 => ?_) fun c0 => ?_
  · refine ⟨by omega, fun p1 hp1 => ⟨by omega, fun p2 hp2 => ⟨by omega, by omega, by omega, by omega, by omega, by omega, fun p3 hp3 => sLater_i ?_⟩⟩⟩
    have e1 : vput (vput w1 p1 (.lst (W.map tupI))) p2 (.dK []) p1 = some (.lst (W.map tupI)) := putO vput_same hp2
    have e2 : vput (vput w1 p1 (.lst (W.map tupI))) p2 (.dK []) p2 = some (.dK []) := vput_same
    have s1 : SubH w1 (vput (vput w1 p1 (.lst (W.map tupI))) p2 (.dK [])) := (s0.put' hp1).put' hp2
    generalize vput (vput w1 p1 (.lst (W.map tupI))) p2 (.dK []) = w22 at *
    simp [ltV, leV, gtV, geV, sumV, maxV, minV, allV, anyV, sortV, sNext, sSeq, sNever, sBreak, sDrop, sRet, sRetN, sIf, gN, gNl, gCn, gTp, gSb, sAsg, sPar, vVar, vC, vNil, vCons, vTup, vLst, v2, addV, intsV, ints0V, mulV, vNeg, eqV', neV', inV', isV, VL.isNon, vTest, vChain, vAnd, vOr, vNot, vAndV, vOrV, vNotV, vIf, ixV, vNo, vPart, vSl, sliceV, vLc_eq, vDc_eq, sFor_eq, sWhile_eq, iSq, iRg1, iRg2, iEn, iZp, vCB, lenV, listV, tupleV, intV1, absV1, ofInts, ofBls, two, vIsi, vM, vM0, appendV, extendV, popV, popAtV, vIndex, vDnew, vCall, sRaise, vYes, vRev, getV, startV, wipeV]
    have ha2 : w22 a = some (tpU ns1) := s1 _ _ ha1
    have hne : p3 ≠ a := fun z => by subst z; rw [ha2] at hp3; cases hp3
    have n1 : p1 ≠ a := fun z => by subst z; rw [ha1] at hp1; cases hp1
    have n2 : p2 ≠ a := fun z => by subst z; rw [putO ha1 hp1] at hp2; cases hp2
    have g1 : p1 ≠ p3 := fun z => by subst z; rw [e1] at hp3; cases hp3
    have g2 : p2 ≠ p3 := fun z => by subst z; rw [e2] at hp3; cases hp3
    show F_take _ (vput w22 p3 (.lst (bent7 p1 p2))) _ _
    refine f_take (by rw [vput_ne (Ne.symm hne)]; exact ha2) (by omega) fun t ns2 ht0 ht1 => ?_
    have f3 : vput (vput w22 p3 (.lst (bent7 p1 p2))) a (tpU ns2) p3 = some (.lst (bent7 p1 p2)) := by rw [vput_ne hne, vput_same]
    have f1 : vput (vput w22 p3 (.lst (bent7 p1 p2))) a (tpU ns2) p1 = some (.lst (W.map tupI)) := by rw [vput_ne n1, vput_ne g1]; exact e1
    have f2 : vput (vput w22 p3 (.lst (bent7 p1 p2))) a (tpU ns2) p2 = some (.dK []) := by rw [vput_ne n2, vput_ne g2]; exact e2
    have s4 : SubH (vput vh a (tpU ns2)) (vput (vput w22 p3 (.lst (bent7 p1 p2))) a (tpU ns2)) := by
      subst hv1
      exact subA (s1.put' hp3)
    generalize vput (vput w22 p3 (.lst (bent7 p1 p2))) a (tpU ns2) = w4 at *
    simp only [asSq_of f3]
    have fin : ∀ u, Bd S w4 u .non → RD R (.tup [u, .non]) w4 := fun u b => r u .non ns2 w4 s4 b rfl
    have hc : t = (0 : Nat) ∨ t = (1 : Nat) ∨ t = (2 : Nat) ∨ t = (3 : Nat) ∨ t = (4 : Nat) ∨ t = (5 : Nat) ∨ t = (6 : Nat) := by omega
    rcases hc with h | h | h | h | h | h | h <;> rw [atI_nat (us := bent7 p1 p2) h rfl]
    · exact fin _ (bd_non ⟨"NoneType", rfl, by simp⟩ rfl)
    · exact fin _ (bd_non (lst_ref f1) rfl)
    · exact fin _ (bd_non (dk_ref f2) rfl)
    · exact fin _ (bd_non ⟨"tuple", rfl, by simp⟩ rfl)
    · exact fin _ (bd_non kn_int rfl)
    · exact fin _ (bd_non ⟨"str", rfl, by simp⟩ rfl)
    · exact fin _ (bd_non ⟨"tuple", rfl, by simp⟩ rfl)
  · have hn0 : wd ≠ 0 := fun z => c0 (.inl z)
    have hW : W ≠ [] := fun z => c0 (.inr z)
    have hpos : 0 < W.length := List.length_pos_iff.2 hW
    refine sLater_i ?_
    simp [ltV, leV, gtV, geV, sumV, maxV, minV, allV, anyV, sortV, sNext, sSeq, sNever, sBreak, sDrop, sRet, sRetN, sIf, gN, gNl, gCn, gTp, gSb, sAsg, sPar, vVar, vC, vNil, vCons, vTup, vLst, v2, addV, intsV, ints0V, mulV, vNeg, eqV', neV', inV', isV, VL.isNon, vTest, vChain, vAnd, vOr, vNot, vAndV, vOrV, vNotV, vIf, ixV, vNo, vPart, vSl, sliceV, vLc_eq, vDc_eq, sFor_eq, sWhile_eq, iSq, iRg1, iRg2, iEn, iZp, vCB, lenV, listV, tupleV, intV1, absV1, ofInts, ofBls, two, vIsi, vM, vM0, appendV, extendV, popV, popAtV, vIndex, vDnew, vCall, sRaise, vYes, vRev, getV, startV, wipeV]
    refine f_take ha1 (by omega) fun t ns2 ht0 ht1 => ?_
    have s2 : SubH (vput vh a (tpU ns2)) (vput w1 a (tpU ns2)) := by subst hv1; exact subA s0
    have ha2 : vput w1 a (tpU ns2) a = some (tpU ns2) := vput_same
    generalize vput w1 a (tpU ns2) = w2' at *
    refine sLater_i ?_
    simp [ltV, leV, gtV, geV, sumV, maxV, minV, allV, anyV, sortV, sNext, sSeq, sNever, sBreak, sDrop, sRet, sRetN, sIf, gN, gNl, gCn, gTp, gSb, sAsg, sPar, vVar, vC, vNil, vCons, vTup, vLst, v2, addV, intsV, ints0V, mulV, vNeg, eqV', neV', inV', isV, VL.isNon, vTest, vChain, vAnd, vOr, vNot, vAndV, vOrV, vNotV, vIf, ixV, vNo, vPart, vSl, sliceV, vLc_eq, vDc_eq, sFor_eq, sWhile_eq, iSq, iRg1, iRg2, iEn, iZp, vCB, lenV, listV, tupleV, intV1, absV1, ofInts, ofBls, two, vIsi, vM, vM0, appendV, extendV, popV, popAtV, vIndex, vDnew, vCall, sRaise, vYes, vRev, getV, startV, wipeV]
    have atW := at_W ht0 ht1
    refine ifA2 (fun c1 c2 => ?_) (sLater_i ?_)
    · refine f_take ha2 (by omega) fun t3 ns3 h30 h31 => ?_
      refine ⟨hW, ?_⟩
      obtain ⟨o0, o1, o2⟩ := other_ok c2 ht0 ht1 h30 h31
      have s3 : SubH (vput vh a (tpU ns3)) (vput w2' a (tpU ns3)) := subA s2
      generalize (t + 1 + t3).fmod W.length = o at *
      have hlo := cut_le (W.map tupI) none (some t)
      have hhi := cut_le (W.map tupI) (some (t + 1)) none
      rw [List.length_map] at hlo hhi
      have hwl := v.wl ht0 ht1
      have fin : ∀ (row : List Int) (w' : VH), SubH (vput vh a (tpU ns3)) w' → badU (WU (W.set t.toNat row)) = some (.str "mutual") →
          RD R (.tup [.tup (cutU (W.map tupI) none (some t) ++ tupI row :: cutU (W.map tupI) (some (t + 1)) none), .str "mutual"]) w' := fun row w' h1 h2 => by
        rw [cut_put' _ _ ht0 (by simpa using ht1), set_W]
        exact r _ _ ns3 w' h1 (bd_mut h2) (by decide +kernel)
      refine sLater_i ?_
      generalize vput w2' a (tpU ns3) = w3' at *
      simp [ltV, leV, gtV, geV, sumV, maxV, minV, allV, anyV, sortV, sNext, sSeq, sNever, sBreak, sDrop, sRet, sRetN, sIf, gN, gNl, gCn, gTp, gSb, sAsg, sPar, vVar, vC, vNil, vCons, vTup, vLst, v2, addV, intsV, ints0V, mulV, vNeg, eqV', neV', inV', isV, VL.isNon, vTest, vChain, vAnd, vOr, vNot, vAndV, vOrV, vNotV, vIf, ixV, vNo, vPart, vSl, sliceV, vLc_eq, vDc_eq, sFor_eq, sWhile_eq, iSq, iRg1, iRg2, iEn, iZp, vCB, lenV, listV, tupleV, intV1, absV1, ofInts, ofBls, two, vIsi, vM, vM0, appendV, extendV, popV, popAtV, vIndex, vDnew, vCall, sRaise, vYes, vRev, getV, startV, wipeV, atW]
      simp [tupI, okD, okDs_ints, inU_ints]
      by_cases c3 : o ∈ wAt W t
      · simp [c3]
        refine LcB.subm (wAt W t) U.int (fun x => if (!decide (x = o)) = true then some (.int x) else none) rfl (fun _ _ => trivial) (by omega) (fun w4 s4 p hp => ?_) fun x hx w4 s4 K hK => ?_
        · rw [fm_if]
          simp only [asL_new]
          refine sLater_i ?_
          simp [ltV, leV, gtV, geV, sumV, maxV, minV, allV, anyV, sortV, sNext, sSeq, sNever, sBreak, sDrop, sRet, sRetN, sIf, gN, gNl, gCn, gTp, gSb, sAsg, sPar, vVar, vC, vNil, vCons, vTup, vLst, v2, addV, intsV, ints0V, mulV, vNeg, eqV', neV', inV', isV, VL.isNon, vTest, vChain, vAnd, vOr, vNot, vAndV, vOrV, vNotV, vIf, ixV, vNo, vPart, vSl, sliceV, vLc_eq, vDc_eq, sFor_eq, sWhile_eq, iSq, iRg1, iRg2, iEn, iZp, vCB, lenV, listV, tupleV, intV1, absV1, ofInts, ofBls, two, vIsi, vM, vM0, appendV, extendV, popV, popAtV, vIndex, vDnew, vCall, sRaise, vYes, vRev, getV, startV, wipeV]
          have := fin _ _ ((s3.trans s4).put' (c := .lst (((wAt W t).filter fun x => !decide (x = o)).map U.int)) hp) (mut_del v ht0 ht1 c3)
          exact ⟨by omega, by omega, by omega, by omega, by simpa [tupI] using this⟩
        · have hK := hK _ s4
          by_cases c4 : x = o
          · simp [ltV, leV, gtV, geV, sumV, maxV, minV, allV, anyV, sortV, sNext, sSeq, sNever, sBreak, sDrop, sRet, sRetN, sIf, gN, gNl, gCn, gTp, gSb, sAsg, sPar, vVar, vC, vNil, vCons, vTup, vLst, v2, addV, intsV, ints0V, mulV, vNeg, eqV', neV', inV', isV, VL.isNon, vTest, vChain, vAnd, vOr, vNot, vAndV, vOrV, vNotV, vIf, ixV, vNo, vPart, vSl, sliceV, vLc_eq, vDc_eq, sFor_eq, sWhile_eq, iSq, iRg1, iRg2, iEn, iZp, vCB, lenV, listV, tupleV, intV1, absV1, ofInts, ofBls, two, vIsi, vM, vM0, appendV, extendV, popV, popAtV, vIndex, vDnew, vCall, sRaise, vYes, vRev, getV, startV, wipeV, neV', eqR_ints, c4] at hK ⊢; exact hK
          · simp [ltV, leV, gtV, geV, sumV, maxV, minV, allV, anyV, sortV, sNext, sSeq, sNever, sBreak, sDrop, sRet, sRetN, sIf, gN, gNl, gCn, gTp, gSb, sAsg, sPar, vVar, vC, vNil, vCons, vTup, vLst, v2, addV, intsV, ints0V, mulV, vNeg, eqV', neV', inV', isV, VL.isNon, vTest, vChain, vAnd, vOr, vNot, vAndV, vOrV, vNotV, vIf, ixV, vNo, vPart, vSl, sliceV, vLc_eq, vDc_eq, sFor_eq, sWhile_eq, iSq, iRg1, iRg2, iEn, iZp, vCB, lenV, listV, tupleV, intV1, absV1, ofInts, ofBls, two, vIsi, vM, vM0, appendV, extendV, popV, popAtV, vIndex, vDnew, vCall, sRaise, vYes, vRev, getV, startV, wipeV, neV', eqR_ints, c4] at hK ⊢; exact hK
      · simp [c3]
        refine ⟨by omega, by omega, sLater_i ?_⟩
        simp [ltV, leV, gtV, geV, sumV, maxV, minV, allV, anyV, sortV, sNext, sSeq, sNever, sBreak, sDrop, sRet, sRetN, sIf, gN, gNl, gCn, gTp, gSb, sAsg, sPar, vVar, vC, vNil, vCons, vTup, vLst, v2, addV, intsV, ints0V, mulV, vNeg, eqV', neV', inV', isV, VL.isNon, vTest, vChain, vAnd, vOr, vNot, vAndV, vOrV, vNotV, vIf, ixV, vNo, vPart, vSl, sliceV, vLc_eq, vDc_eq, sFor_eq, sWhile_eq, iSq, iRg1, iRg2, iEn, iZp, vCB, lenV, listV, tupleV, intV1, absV1, ofInts, ofBls, two, vIsi, vM, vM0, appendV, extendV, popV, popAtV, vIndex, vDnew, vCall, sRaise, vYes, vRev, getV, startV, wipeV]
        have := fin _ _ s3 (mut_add v ht0 ht1 o0 o1 o2 c3)
        exact ⟨by omega, by omega, by omega, by omega, by simpa [tupI] using this⟩
    · simp [ltV, leV, gtV, geV, sumV, maxV, minV, allV, anyV, sortV, sNext, sSeq, sNever, sBreak, sDrop, sRet, sRetN, sIf, gN, gNl, gCn, gTp, gSb, sAsg, sPar, vVar, vC, vNil, vCons, vTup, vLst, v2, addV, intsV, ints0V, mulV, vNeg, eqV', neV', inV', isV, VL.isNon, vTest, vChain, vAnd, vOr, vNot, vAndV, vOrV, vNotV, vIf, ixV, vNo, vPart, vSl, sliceV, vLc_eq, vDc_eq, sFor_eq, sWhile_eq, iSq, iRg1, iRg2, iEn, iZp, vCB, lenV, listV, tupleV, intV1, absV1, ofInts, ofBls, two, vIsi, vM, vM0, appendV, extendV, popV, popAtV, vIndex, vDnew, vCall, sRaise, vYes, vRev, getV, startV, wipeV, atW]
      obtain ⟨c, hc, hcl⟩ := cut_map U.int (wAt W t) none (some 1)
      have hwl := v.wl ht0 ht1
      simp only [tupI, asSq_tup, hc, List.length_map]
      intro q hq
      refine ⟨by omega, fun p hp => ⟨by omega, fun p1 hp1 => ⟨by omega, fun p2 hp2 => ⟨by omega, by omega, by omega, by omega, fun p3 hp3 => ⟨by omega, fun p4 hp4 => ?_⟩⟩⟩⟩⟩
      have eq' := putO (c := .dK []) (putO (putO (putO (vput_same (vh := w2') (a := q) (c := .lst ((wAt W t).map U.int))) hp) hp1) hp2) hp3
      have ep := putO (c := .dK []) (putO (putO (vput_same (vh := vput w2' q (.lst ((wAt W t).map U.int))) (a := p) (c := .lst [])) hp1) hp2) hp3
      have ep1 := putO (c := .dK []) (putO (vput_same (vh := vput (vput w2' q (.lst ((wAt W t).map U.int))) p (.lst [])) (a := p1) (c := .lst [.int 1])) hp2) hp3
      have ep2 := putO (c := .dK []) (vput_same (vh := vput (vput (vput w2' q (.lst ((wAt W t).map U.int))) p (.lst [])) p1 (.lst [.int 1])) (a := p2) (c := .dK [])) hp3
      have ep3 := vput_same (vh := vput (vput (vput (vput w2' q (.lst ((wAt W t).map U.int))) p (.lst [])) p1 (.lst [.int 1])) p2 (.dK [])) (a := p3) (c := .dK [])
      have s5 := ((((s2.put' (c := .lst ((wAt W t).map U.int)) hq).put' (c := .lst []) hp).put' (c := .lst [.int 1]) hp1).put' (c := .dK []) hp2).put' (c := .dK []) hp3
      generalize vput (vput (vput (vput (vput w2' q (.lst ((wAt W t).map U.int))) p (.lst [])) p1 (.lst [.int 1])) p2 (.dK [])) p3 (.dK []) = w5 at *
      have ha5 : w5 a = some (tpU ns2) := s5 _ _ vput_same
      have n4 : p4 ≠ a := fun z => by subst z; rw [ha5] at hp4; cases hp4
      have g5 : ∀ x ∈ bentR t W.length (wAt W t) c q p p1 p2 p3, GoodX S w5 t W.length x := good_R ht0 eq' ep ep1 ep2 ep3
      have s6 := s5.put' (c := .lst (bentR t W.length (wAt W t) c q p p1 p2 p3)) hp4
      have hP : vput w5 p4 (.lst (bentR t W.length (wAt W t) c q p p1 p2 p3)) p4 = some (.lst (bentR t W.length (wAt W t) c q p p1 p2 p3)) := vput_same
      have ha6 := s6 _ _ vput_same
      have g6 : ∀ x ∈ bentR t W.length (wAt W t) c q p p1 p2 p3, GoodX S (vput w5 p4 (.lst (bentR t W.length (wAt W t) c q p p1 p2 p3))) t W.length x := fun x hx => (g5 x hx).sub ((SubH.refl _).put' hp4)
      show sLater _ _ _ _ (vput w5 p4 (.lst (bentR t W.length (wAt W t) c q p p1 p2 p3)))
      have hbl : (bentR t W.length (wAt W t) c q p p1 p2 p3).length = 14 := rfl
      generalize bentR t W.length (wAt W t) c q p p1 p2 p3 = xs at *
      generalize vput w5 p4 (.lst xs) = w6 at *
      refine sLater_i ?_
      simp [ltV, leV, gtV, geV, sumV, maxV, minV, allV, anyV, sortV, sNext, sSeq, sNever, sBreak, sDrop, sRet, sRetN, sIf, gN, gNl, gCn, gTp, gSb, sAsg, sPar, vVar, vC, vNil, vCons, vTup, vLst, v2, addV, intsV, ints0V, mulV, vNeg, eqV', neV', inV', isV, VL.isNon, vTest, vChain, vAnd, vOr, vNot, vAndV, vOrV, vNotV, vIf, ixV, vNo, vPart, vSl, sliceV, vLc_eq, vDc_eq, sFor_eq, sWhile_eq, iSq, iRg1, iRg2, iEn, iZp, vCB, lenV, listV, tupleV, intV1, absV1, ofInts, ofBls, two, vIsi, vM, vM0, appendV, extendV, popV, popAtV, vIndex, vDnew, vCall, sRaise, vYes, vRev, getV, startV, wipeV]
      by_cases c2 : (1 : Int) < W.length
      · rw [if_pos c2]
        refine f_take ha6 (by omega) fun t3 ns3 h30 h31 => ?_
        refine ⟨hW, sLater_i ?_⟩
        obtain ⟨o0, o1, o2⟩ := other_ok c2 ht0 ht1 h30 h31
        generalize (t + 1 + t3).fmod W.length = o at *
        have s7 : SubH (vput vh a (tpU ns3)) (vput w6 a (tpU ns3)) := subA s6
        have hP7 : vput w6 a (tpU ns3) p4 = some (.lst xs) := by rw [vput_ne n4]; exact hP
        have g7 : ∀ x ∈ xs, GoodX S (vput w6 a (tpU ns3)) t W.length x := fun x hx => (g6 x hx).tape ha6
        generalize vput w6 a (tpU ns3) = w7 at *
        simp only [sSeq, sAsg, gN, v2, vVar, getV, List.getElem?_cons_succ, List.getElem?_cons_zero, vLst, vCons, vNil, vTup, addV, vSl]
        have hr0 : rowO W t o ≠ [] := by
          unfold rowO
          split
          · simp
          · assumption
        have hrl : (rowO W t o).length ≤ 8 := by
          unfold rowO
          split
          · simp
          · exact hwl
        obtain ⟨z, hz1, hz2⟩ := cut_last hr0
        refine ⟨by simp only [List.length_cons, List.length_nil]; omega, rowV_ok rfl rfl rfl atW (rowV_ok rfl rfl rfl atW ?_)⟩
        simp only [vPart, vNeg, vC, vNo, sliceV, hz2]
        refine ⟨by simp only [List.length_map, List.length_cons, List.length_nil]; omega, by simp only [List.length_cons, List.length_nil]; omega, fun p5 hp5 => ?_⟩
        have hP8 := putO (c := .lst [U.tup [U.int o, U.int o], U.tup ((rowO W t o).map U.int ++ [U.int z])]) hP7 hp5
        have s8 := s7.put' (c := .lst [U.tup [U.int o, U.int o], U.tup ((rowO W t o).map U.int ++ [U.int z])]) hp5
        have g8 : ∀ x ∈ xs ++ [U.tup [U.int o, U.int o], U.tup ((rowO W t o).map U.int ++ [U.int z])], GoodX S (vput w7 p5 (.lst [U.tup [U.int o, U.int o], U.tup ((rowO W t o).map U.int ++ [U.int z])])) t W.length x := fun x hx => by
          rcases List.mem_append.1 hx with hx | hx
          · exact (g7 x hx).sub ((SubH.refl _).put' hp5)
          · have hx : x = .tup [.int o, .int o] ∨ x = .tup ((rowO W t o).map U.int ++ [.int z]) := by simpa using hx
            rcases hx with rfl | rfl
            · exact good_two
            · exact good_last hz1
        simp only [ownL_of hP8, ownL_new]
        refine ⟨by simp only [List.length_cons, List.length_nil]; omega, fun p6 hp6 => ?_⟩
        have ha8 := s8 _ _ vput_same
        have n6 : p6 ≠ a := fun z => by subst z; rw [ha8] at hp6; cases hp6
        exact bent_fin v ht0 ht1 rfl ((s8.put' hp6) _ _ vput_same) (s8.put' hp6) vput_same n6 (fun x hx => (g8 x hx).sub ((SubH.refl _).put' hp6)) (by simp) (by simp only [List.length_append, List.length_cons, List.length_nil]; omega) r
      · rw [if_neg c2]
        exact bent_fin v ht0 ht1 rfl ha6 s6 hP n4 g6 (by omega) (by omega) r
end K75

-- part B24
set_option Elab.async false
set_option linter.all false
set_option maxRecDepth 100000
set_option maxHeartbeats 2000000
/-! Plain laws, part 24: _law_right. -/
namespace K75
open PySem PySem.Spec PyProof.Rows L2 VL LamX
theorem okD_tups (l : List (List Int)) : okD 3 (.tup (l.map tupI)) = true := by
  have : ∀ l : List (List Int), okDs 2 (l.map tupI) = true := fun l => by
    induction l with
    | nil => simp [okDs]
    | cons a l ih => simp only [List.map_cons, okDs, Bool.and_eq_true]; exact ⟨by simp [tupI, okD, okDs_ints], ih⟩
  simpa [okD] using this l
theorem okD_tupI (l : List Int) : okD 3 (tupI l) = true := by simp [tupI, okD, okDs_ints]
def F_right : FV := fun us vh R _ => ∃ W, us = [WU W] ∧ VW W ∧ R (.bl true) vh
theorem find_no {c1 c2 : Addr} (h : c1 ≠ c2) : (tcs c1 c2).find? (fun d => decide (d.C = c2)) = some ⟨c2, 1, "NoSuch", "value"⟩ := by
  simp [tcs, List.find?, h]
theorem find_bad {c1 c2 : Addr} : (tcs c1 c2).find? (fun d => decide (d.C = c1)) = some ⟨c1, 1, "BadList", "place"⟩ := by
  simp [tcs, List.find?]
theorem srch_no {S : SS} {c1 c2 : Addr} {f : List (List Int) → U} {W : List (List Int)} {vh : VH} {R : U → VH → Prop} {Z : XV} (v : VW W) (c : stL W = []) (h : Z c2 "value" (.str "steady") vh) : Srch S c1 c2 f [WU W] vh R Z := .inl ⟨W, rfl, v, fun z => absurd c z, fun _ => h⟩
theorem srch_ok {S : SS} {c1 c2 : Addr} {f : List (List Int) → U} {W : List (List Int)} {vh : VH} {R : U → VH → Prop} {Z : XV} (v : VW W) (c : stL W ≠ []) (h : R (f W) vh) : Srch S c1 c2 f [WU W] vh R Z := .inl ⟨W, rfl, v, fun _ => h, fun z => absurd z c⟩
theorem srch_bad {S : SS} {c1 c2 : Addr} {f : List (List Int) → U} {u pl : U} {vh : VH} {R : U → VH → Prop} {Z : XV} (b : Bd S vh u pl) (h : Z c1 "place" pl vh) : Srch S c1 c2 f [u] vh R Z := .inr ⟨u, pl, rfl, b, h⟩
theorem eqUs_ints (ns : List Int) : VL.eqUs (ns.map U.int) (ns.map U.int) = true := by
  induction ns with
  | nil => simp [VL.eqUs]
  | cons a ns ih => simp [VL.eqUs, VL.eqU, ih]
theorem b_right {S : SS} {c1 c2 : Addr} (hne : c1 ≠ c2) {mk_1 mk_2 mk_5 mk_6 mk_7 : Addr → Clo} {mk_3 mk_4 : Addr → Addr → Clo} : BodyV F_right 12 1 (t__law_right S F_rank_by F_all_steady_by (F_all_steady S c1) (F_always_alone S c1 c2) (F_cheapest S c1 c2) (F_kindest S c1 c2) 3 (tcs c1 c2) mk_1 mk_2 mk_3 mk_4 mk_5 mk_6 mk_7) := by
  rintro us vh R Z hl ⟨W, rfl, v, r⟩
  clear hl
  have hz := sz1m
  have h8 := v.len
  have hal := all_len v
  have hst : (stL W).length ≤ (allL W).length := List.length_filter_le _ _
  simp only [t__law_right]
  simp [ltV, leV, gtV, geV, sumV, maxV, minV, allV, anyV, sortV, sNext, sSeq, sNever, sBreak, sDrop, sRet, sRetN, sIf, gN, gNl, gCn, gTp, gSb, sAsg, sPar, vVar, vC, vNil, vCons, vTup, vLst, v2, addV, intsV, ints0V, mulV, vNeg, eqV', neV', inV', isV, VL.isNon, vTest, vChain, vAnd, vOr, vNot, vAndV, vOrV, vNotV, vIf, ixV, vNo, vPart, vSl, sliceV, vLc_eq, vDc_eq, sFor_eq, sWhile_eq, iSq, iRg1, iRg2, iEn, iZp, vCB, lenV, listV, tupleV, intV1, absV1, ofInts, ofBls, two, vIsi, vM, vM0, appendV, extendV, popV, popAtV, vIndex, vDnew, vCall, sRaise, vYes, vRev, getV, startV, wipeV]
  refine f_all_steady_by v fun p hp => sLater_i ?_
  have s1 : SubH vh (vput vh p (.lst ((stL W).map tupI))) := (SubH.refl _).put hp
  have e1 : vput vh p (.lst ((stL W).map tupI)) p = some (.lst ((stL W).map tupI)) := vput_same
  generalize vput vh p (.lst ((stL W).map tupI)) = w1 at *
  simp [ltV, leV, gtV, geV, sumV, maxV, minV, allV, anyV, sortV, sNext, sSeq, sNever, sBreak, sDrop, sRet, sRetN, sIf, gN, gNl, gCn, gTp, gSb, sAsg, sPar, vVar, vC, vNil, vCons, vTup, vLst, v2, addV, intsV, ints0V, mulV, vNeg, eqV', neV', inV', isV, VL.isNon, vTest, vChain, vAnd, vOr, vNot, vAndV, vOrV, vNotV, vIf, ixV, vNo, vPart, vSl, sliceV, vLc_eq, vDc_eq, sFor_eq, sWhile_eq, iSq, iRg1, iRg2, iEn, iZp, vCB, lenV, listV, tupleV, intV1, absV1, ofInts, ofBls, two, vIsi, vM, vM0, appendV, extendV, popV, popAtV, vIndex, vDnew, vCall, sRaise, vYes, vRev, getV, startV, wipeV]
  refine vIs_val (du := .tup ((stL W).map tupI)) (by omega) (.head _) (okD_tups _) (fun w22 s2 K hK => ?_) (fun w22 s2 K Zx hK => ?_) fun w22 s2 => ?_
  · simp [ltV, leV, gtV, geV, sumV, maxV, minV, allV, anyV, sortV, sNext, sSeq, sNever, sBreak, sDrop, sRet, sRetN, sIf, gN, gNl, gCn, gTp, gSb, sAsg, sPar, vVar, vC, vNil, vCons, vTup, vLst, v2, addV, intsV, ints0V, mulV, vNeg, eqV', neV', inV', isV, VL.isNon, vTest, vChain, vAnd, vOr, vNot, vAndV, vOrV, vNotV, vIf, ixV, vNo, vPart, vSl, sliceV, vLc_eq, vDc_eq, sFor_eq, sWhile_eq, iSq, iRg1, iRg2, iEn, iZp, vCB, lenV, listV, tupleV, intV1, absV1, ofInts, ofBls, two, vIsi, vM, vM0, appendV, extendV, popV, popAtV, vIndex, vDnew, vCall, sRaise, vYes, vRev, getV, startV, wipeV, asL_of (s2 _ _ e1)]; exact hK _ (.refl _)
  · simp [ltV, leV, gtV, geV, sumV, maxV, minV, allV, anyV, sortV, sNext, sSeq, sNever, sBreak, sDrop, sRet, sRetN, sIf, gN, gNl, gCn, gTp, gSb, sAsg, sPar, vVar, vC, vNil, vCons, vTup, vLst, v2, addV, intsV, ints0V, mulV, vNeg, eqV', neV', inV', isV, VL.isNon, vTest, vChain, vAnd, vOr, vNot, vAndV, vOrV, vNotV, vIf, ixV, vNo, vPart, vSl, sliceV, vLc_eq, vDc_eq, sFor_eq, sWhile_eq, iSq, iRg1, iRg2, iEn, iZp, vCB, lenV, listV, tupleV, intV1, absV1, ofInts, ofBls, two, vIsi, vM, vM0, appendV, extendV, popV, popAtV, vIndex, vDnew, vCall, sRaise, vYes, vRev, getV, startV, wipeV]; exact .inl ⟨W, rfl, v, hK _ (.refl _)⟩
  have s2 := s1.trans s2
  have e1 := ‹SubH w1 w22› _ _ e1
  simp only [↓reduceIte]
  refine sLater_i ?_
  simp [ltV, leV, gtV, geV, sumV, maxV, minV, allV, anyV, sortV, sNext, sSeq, sNever, sBreak, sDrop, sRet, sRetN, sIf, gN, gNl, gCn, gTp, gSb, sAsg, sPar, vVar, vC, vNil, vCons, vTup, vLst, v2, addV, intsV, ints0V, mulV, vNeg, eqV', neV', inV', isV, VL.isNon, vTest, vChain, vAnd, vOr, vNot, vAndV, vOrV, vNotV, vIf, ixV, vNo, vPart, vSl, sliceV, vLc_eq, vDc_eq, sFor_eq, sWhile_eq, iSq, iRg1, iRg2, iEn, iZp, vCB, lenV, listV, tupleV, intV1, absV1, ofInts, ofBls, two, vIsi, vM, vM0, appendV, extendV, popV, popAtV, vIndex, vDnew, vCall, sRaise, vYes, vRev, getV, startV, wipeV]
  intro q hq
  have e2 := putO (c := .lst []) e1 hq
  refine eqR_lists (asL_of e2) asL_new (okDs_tups _) rfl ?_
  rw [eqUs_nil]
  have s3 := s2.put' (c := .lst []) hq
  generalize vput w22 q (.lst []) = w3' at *
  by_cases c : stL W = []
  · simp [c]
    intro f1 d1 h1 f2 d2 t2 h2 f3 d3 t3 h3
    refine ⟨by omega, fun pl hpl => sLater_i ?_⟩
    have g3 := putO (c := .lst [U.ref f1, U.ref f2, U.ref f3]) (vput_same (vh := vput (vput w3' f1 (cloF f1 (mk_2 d1))) f2 (cloF f2 (mk_3 t2 d2))) (a := f3) (c := cloF f3 (mk_4 t3 d3))) hpl
    have g2 := putO (c := .lst [U.ref f1, U.ref f2, U.ref f3]) (putO (vput_same (vh := vput w3' f1 (cloF f1 (mk_2 d1))) (a := f2) (c := cloF f2 (mk_3 t2 d2))) h3) hpl
    have g1 := putO (c := .lst [U.ref f1, U.ref f2, U.ref f3]) (putO (putO (vput_same (vh := w3') (a := f1) (c := cloF f1 (mk_2 d1))) h2) h3) hpl
    have s4 := (((s3.put' (c := cloF f1 (mk_2 d1)) h1).put' (c := cloF f2 (mk_3 t2 d2)) h2).put' (c := cloF f3 (mk_4 t3 d3)) h3).put' (c := .lst [U.ref f1, U.ref f2, U.ref f3]) hpl
    have g4 := vput_same (vh := vput (vput (vput w3' f1 (cloF f1 (mk_2 d1))) f2 (cloF f2 (mk_3 t2 d2))) f3 (cloF f3 (mk_4 t3 d3))) (a := pl) (c := .lst [U.ref f1, U.ref f2, U.ref f3])
    generalize vput (vput (vput (vput w3' f1 (cloF f1 (mk_2 d1))) f2 (cloF f2 (mk_3 t2 d2))) f3 (cloF f3 (mk_4 t3 d3))) pl (.lst [U.ref f1, U.ref f2, U.ref f3]) = w4 at *
    simp [ltV, leV, gtV, geV, sumV, maxV, minV, allV, anyV, sortV, sNext, sSeq, sNever, sBreak, sDrop, sRet, sRetN, sIf, gN, gNl, gCn, gTp, gSb, sAsg, sPar, vVar, vC, vNil, vCons, vTup, vLst, v2, addV, intsV, ints0V, mulV, vNeg, eqV', neV', inV', isV, VL.isNon, vTest, vChain, vAnd, vOr, vNot, vAndV, vOrV, vNotV, vIf, ixV, vNo, vPart, vSl, sliceV, vLc_eq, vDc_eq, sFor_eq, sWhile_eq, iSq, iRg1, iRg2, iEn, iZp, vCB, lenV, listV, tupleV, intV1, absV1, ofInts, ofBls, two, vIsi, vM, vM0, appendV, extendV, popV, popAtV, vIndex, vDnew, vCall, sRaise, vYes, vRev, getV, startV, wipeV, vLcT]
    rw [asSq_of g4]
    refine LcB.sub (fun _ => none) (fun w5 s5 => asSq_of (s5 _ _ g4)) (by simp only [List.length_cons, List.length_nil]; omega) (fun w5 s5 p5 hp5 => ?_) fun u hu w5 s5 K hK => ?_
    · intro p6 hp6
      have e5 := putO (c := .lst []) (vput_same (vh := w5) (a := p5) (c := .lst [])) hp6
      refine eqR_lists (asL_of e5) asL_new rfl rfl ?_
      exact RD.of r (((s4.trans s5).put' hp5).put' hp6)
    · simp [ltV, leV, gtV, geV, sumV, maxV, minV, allV, anyV, sortV, sNext, sSeq, sNever, sBreak, sDrop, sRet, sRetN, sIf, gN, gNl, gCn, gTp, gSb, sAsg, sPar, vVar, vC, vNil, vCons, vTup, vLst, v2, addV, intsV, ints0V, mulV, vNeg, eqV', neV', inV', isV, VL.isNon, vTest, vChain, vAnd, vOr, vNot, vAndV, vOrV, vNotV, vIf, ixV, vNo, vPart, vSl, sliceV, vLc_eq, vDc_eq, sFor_eq, sWhile_eq, iSq, iRg1, iRg2, iEn, iZp, vCB, lenV, listV, tupleV, intV1, absV1, ofInts, ofBls, two, vIsi, vM, vM0, appendV, extendV, popV, popAtV, vIndex, vDnew, vCall, sRaise, vYes, vRev, getV, startV, wipeV]
      have hK' : ∀ w6, SubH w5 w6 → K none w6 := fun w6 s6 => hK w6 (s5.trans s6)
      have hu : u = .ref f1 ∨ u = .ref f2 ∨ u = .ref f3 := by simpa using hu
      have od : okD 3 (.str "steady") = true := by simp only [okD, PyData.canLay0]; decide +kernel
      have ol : okD 9 (.str "NoSuch") = true := by simp only [okD, PyData.canLay0]; decide +kernel
      rcases hu with rfl | rfl | rfl
      · refine vIs_exc (c := ⟨c2, 1, "NoSuch", "value"⟩) (by omega) rfl (.tail _ (.head _)) (t := 0) (s5 _ _ g1) od ol (find_no hne) (fun K h => h) (fun K Zx h => ?_) fun w6 s6 => by simpa using hK' w6 s6
        simp [ltV, leV, gtV, geV, sumV, maxV, minV, allV, anyV, sortV, sNext, sSeq, sNever, sBreak, sDrop, sRet, sRetN, sIf, gN, gNl, gCn, gTp, gSb, sAsg, sPar, vVar, vC, vNil, vCons, vTup, vLst, v2, addV, intsV, ints0V, mulV, vNeg, eqV', neV', inV', isV, VL.isNon, vTest, vChain, vAnd, vOr, vNot, vAndV, vOrV, vNotV, vIf, ixV, vNo, vPart, vSl, sliceV, vLc_eq, vDc_eq, sFor_eq, sWhile_eq, iSq, iRg1, iRg2, iEn, iZp, vCB, lenV, listV, tupleV, intV1, absV1, ofInts, ofBls, two, vIsi, vM, vM0, appendV, extendV, popV, popAtV, vIndex, vDnew, vCall, sRaise, vYes, vRev, getV, startV, wipeV]; exact srch_no v c (h _ (.refl _))
      · refine vIs_exc (c := ⟨c2, 1, "NoSuch", "value"⟩) (by omega) rfl (.tail _ (.tail _ (.head _))) (s5 _ _ g2) od ol (find_no hne) (fun K h => h) (fun K Zx h => ?_) fun w6 s6 => by simpa using hK' w6 s6
        simp [ltV, leV, gtV, geV, sumV, maxV, minV, allV, anyV, sortV, sNext, sSeq, sNever, sBreak, sDrop, sRet, sRetN, sIf, gN, gNl, gCn, gTp, gSb, sAsg, sPar, vVar, vC, vNil, vCons, vTup, vLst, v2, addV, intsV, ints0V, mulV, vNeg, eqV', neV', inV', isV, VL.isNon, vTest, vChain, vAnd, vOr, vNot, vAndV, vOrV, vNotV, vIf, ixV, vNo, vPart, vSl, sliceV, vLc_eq, vDc_eq, sFor_eq, sWhile_eq, iSq, iRg1, iRg2, iEn, iZp, vCB, lenV, listV, tupleV, intV1, absV1, ofInts, ofBls, two, vIsi, vM, vM0, appendV, extendV, popV, popAtV, vIndex, vDnew, vCall, sRaise, vYes, vRev, getV, startV, wipeV]; exact srch_no v c (h _ (.refl _))
      · refine vIs_exc (c := ⟨c2, 1, "NoSuch", "value"⟩) (by omega) rfl (.tail _ (.tail _ (.tail _ (.head _)))) (s5 _ _ g3) od ol (find_no hne) (fun K h => h) (fun K Zx h => ?_) fun w6 s6 => by simpa using hK' w6 s6
        simp [ltV, leV, gtV, geV, sumV, maxV, minV, allV, anyV, sortV, sNext, sSeq, sNever, sBreak, sDrop, sRet, sRetN, sIf, gN, gNl, gCn, gTp, gSb, sAsg, sPar, vVar, vC, vNil, vCons, vTup, vLst, v2, addV, intsV, ints0V, mulV, vNeg, eqV', neV', inV', isV, VL.isNon, vTest, vChain, vAnd, vOr, vNot, vAndV, vOrV, vNotV, vIf, ixV, vNo, vPart, vSl, sliceV, vLc_eq, vDc_eq, sFor_eq, sWhile_eq, iSq, iRg1, iRg2, iEn, iZp, vCB, lenV, listV, tupleV, intV1, absV1, ofInts, ofBls, two, vIsi, vM, vM0, appendV, extendV, popV, popAtV, vIndex, vDnew, vCall, sRaise, vYes, vRev, getV, startV, wipeV]; exact srch_no v c (h _ (.refl _))
  · simp [c]
    refine sLater_i ?_
    simp [ltV, leV, gtV, geV, sumV, maxV, minV, allV, anyV, sortV, sNext, sSeq, sNever, sBreak, sDrop, sRet, sRetN, sIf, gN, gNl, gCn, gTp, gSb, sAsg, sPar, vVar, vC, vNil, vCons, vTup, vLst, v2, addV, intsV, ints0V, mulV, vNeg, eqV', neV', inV', isV, VL.isNon, vTest, vChain, vAnd, vOr, vNot, vAndV, vOrV, vNotV, vIf, ixV, vNo, vPart, vSl, sliceV, vLc_eq, vDc_eq, sFor_eq, sWhile_eq, iSq, iRg1, iRg2, iEn, iZp, vCB, lenV, listV, tupleV, intV1, absV1, ofInts, ofBls, two, vIsi, vM, vM0, appendV, extendV, popV, popAtV, vIndex, vDnew, vCall, sRaise, vYes, vRev, getV, startV, wipeV]
    rw [asSq_of e2]
    obtain ⟨m0, ms, hst0⟩ : ∃ m0 ms, stL W = m0 :: ms := by
      cases h : stL W with
      | nil => exact absurd h c
      | cons a l => exact ⟨a, l, rfl⟩
    refine LcB.subm (stL W) tupI (fun m => some (tupI (al m))) rfl (fun w5 s5 => asSq_of (s5 _ _ e2)) (by omega) (fun w5 s5 p4 hp4 => ?_) fun m hm w5 s5 K hK => ?_
    rotate_left
    · have g := st_gm v hm
      simp [ltV, leV, gtV, geV, sumV, maxV, minV, allV, anyV, sortV, sNext, sSeq, sNever, sBreak, sDrop, sRet, sRetN, sIf, gN, gNl, gCn, gTp, gSb, sAsg, sPar, vVar, vC, vNil, vCons, vTup, vLst, v2, addV, intsV, ints0V, mulV, vNeg, eqV', neV', inV', isV, VL.isNon, vTest, vChain, vAnd, vOr, vNot, vAndV, vOrV, vNotV, vIf, ixV, vNo, vPart, vSl, sliceV, vLc_eq, vDc_eq, sFor_eq, sWhile_eq, iSq, iRg1, iRg2, iEn, iZp, vCB, lenV, listV, tupleV, intV1, absV1, ofInts, ofBls, two, vIsi, vM, vM0, appendV, extendV, popV, popAtV, vIndex, vDnew, vCall, sRaise, vYes, vRev, getV, startV, wipeV, tupI]
      rw [enum_m]
      refine LcB.subm (rng 0 m.length) _ (fun i => if decide (i = iAt m i) = true then some (.int i) else none) rfl (fun _ _ => trivial) (by rw [rng_len, g.len]; omega) (fun w6 s6 p6 hp6 => ?_) fun i hi w6 s6 K' hK' => ?_
      · rw [fm_if]
        simp only [asL_new]
        have := hK _ ((s5.trans s6).put' (c := .lst ((al m).map U.int)) hp6)
        simpa [tupI, al] using this
      · by_cases c : i = iAt m i
        · have hK' := hK' _ s6
          simp [ltV, leV, gtV, geV, sumV, maxV, minV, allV, anyV, sortV, sNext, sSeq, sNever, sBreak, sDrop, sRet, sRetN, sIf, gN, gNl, gCn, gTp, gSb, sAsg, sPar, vVar, vC, vNil, vCons, vTup, vLst, v2, addV, intsV, ints0V, mulV, vNeg, eqV', neV', inV', isV, VL.isNon, vTest, vChain, vAnd, vOr, vNot, vAndV, vOrV, vNotV, vIf, ixV, vNo, vPart, vSl, sliceV, vLc_eq, vDc_eq, sFor_eq, sWhile_eq, iSq, iRg1, iRg2, iEn, iZp, vCB, lenV, listV, tupleV, intV1, absV1, ofInts, ofBls, two, vIsi, vM, vM0, appendV, extendV, popV, popAtV, vIndex, vDnew, vCall, sRaise, vYes, vRev, getV, startV, wipeV, ← c] at hK' ⊢
          exact hK'
        · have hK' := hK' _ s6
          simp [ltV, leV, gtV, geV, sumV, maxV, minV, allV, anyV, sortV, sNext, sSeq, sNever, sBreak, sDrop, sRet, sRetN, sIf, gN, gNl, gCn, gTp, gSb, sAsg, sPar, vVar, vC, vNil, vCons, vTup, vLst, v2, addV, intsV, ints0V, mulV, vNeg, eqV', neV', inV', isV, VL.isNon, vTest, vChain, vAnd, vOr, vNot, vAndV, vOrV, vNotV, vIf, ixV, vNo, vPart, vSl, sliceV, vLc_eq, vDc_eq, sFor_eq, sWhile_eq, iSq, iRg1, iRg2, iEn, iZp, vCB, lenV, listV, tupleV, intV1, absV1, ofInts, ofBls, two, vIsi, vM, vM0, appendV, extendV, popV, popAtV, vIndex, vDnew, vCall, sRaise, vYes, vRev, getV, startV, wipeV, c] at hK' ⊢
          exact hK'
    rw [fm_some]
    have f4 := vput_same (vh := w5) (a := p4) (c := .lst ((stL W).map fun m => tupI (al m)))
    have f1 := putO (c := .lst ((stL W).map fun m => tupI (al m))) (s5 _ _ e2) hp4
    have s4 := (s3.trans s5).put' (c := .lst ((stL W).map fun m => tupI (al m))) hp4
    generalize vput w5 p4 (.lst ((stL W).map fun m => tupI (al m))) = w6 at *
    have hall : ∀ m ∈ stL W, al m = al m0 := fun m hm => al_eq v hm (by rw [hst0]; simp)
    have f0 : L2.atI ((stL W).map fun m => tupI (al m)) 0 = some (tupI (al m0)) := at_map (u := m0) (f := fun m => tupI (al m)) (by omega) (by rw [hst0]; rfl)
    refine sLater_i ?_
    simp [ltV, leV, gtV, geV, sumV, maxV, minV, allV, anyV, sortV, sNext, sSeq, sNever, sBreak, sDrop, sRet, sRetN, sIf, gN, gNl, gCn, gTp, gSb, sAsg, sPar, vVar, vC, vNil, vCons, vTup, vLst, v2, addV, intsV, ints0V, mulV, vNeg, eqV', neV', inV', isV, VL.isNon, vTest, vChain, vAnd, vOr, vNot, vAndV, vOrV, vNotV, vIf, ixV, vNo, vPart, vSl, sliceV, vLc_eq, vDc_eq, sFor_eq, sWhile_eq, iSq, iRg1, iRg2, iEn, iZp, vCB, lenV, listV, tupleV, intV1, absV1, ofInts, ofBls, two, vIsi, vM, vM0, appendV, extendV, popV, popAtV, vIndex, vDnew, vCall, sRaise, vYes, vRev, getV, startV, wipeV]
    rw [asSq_of f4]
    refine LcB.subm (stL W) (fun m => tupI (al m)) (fun m => none) rfl (fun w7 s7 => asSq_of (s7 _ _ f4)) (by omega) (fun w7 s7 p7 hp7 => ?_) fun m hm w7 s7 K hK => ?_
    rotate_left
    · simp [ltV, leV, gtV, geV, sumV, maxV, minV, allV, anyV, sortV, sNext, sSeq, sNever, sBreak, sDrop, sRet, sRetN, sIf, gN, gNl, gCn, gTp, gSb, sAsg, sPar, vVar, vC, vNil, vCons, vTup, vLst, v2, addV, intsV, ints0V, mulV, vNeg, eqV', neV', inV', isV, VL.isNon, vTest, vChain, vAnd, vOr, vNot, vAndV, vOrV, vNotV, vIf, ixV, vNo, vPart, vSl, sliceV, vLc_eq, vDc_eq, sFor_eq, sWhile_eq, iSq, iRg1, iRg2, iEn, iZp, vCB, lenV, listV, tupleV, intV1, absV1, ofInts, ofBls, two, vIsi, vM, vM0, appendV, extendV, popV, popAtV, vIndex, vDnew, vCall, sRaise, vYes, vRev, getV, startV, wipeV, asSq_of (s7 _ _ f4), f0]
      refine eqR_pure rfl rfl (okD_up (by omega) (okD_tupI _)) (okD_up (by omega) (okD_tupI _)) ?_
      have : VL.eqU (tupI (al m)) (tupI (al m0)) = true := by
        rw [hall m hm]
        simp [tupI, VL.eqU, eqUs_ints]
      rw [this]
      simpa using hK _ s7
    have efm : List.filterMap (fun _ : List Int => (none : Option U)) (stL W) = [] := by simp
    rw [efm]
    intro p8 hp8
    have e8 := putO (c := .lst []) (vput_same (vh := w7) (a := p7) (c := .lst [])) hp8
    refine eqR_lists (asL_of e8) asL_new rfl rfl ?_
    have s8 := ((s4.trans s7).put' (c := .lst []) hp7).put' (c := .lst []) hp8
    have q4 := putO (c := .lst []) (putO (c := .lst []) (s7 _ _ f4) hp7) hp8
    have q1 := putO (c := .lst []) (putO (c := .lst []) (s7 _ _ f1) hp7) hp8
    generalize vput (vput w7 p7 (.lst [])) p8 (.lst []) = w8 at *
    rw [eqUs_nil]
    simp only [↓reduceIte, decide_true]
    refine vIs_val (du := tupI (al m0)) (by omega) (.head _) (okD_tupI _) (fun w9 s9 K hK => ?_) (fun w9 s9 K Zx hK => ?_) fun w9 s9 => ?_
    · simp [ltV, leV, gtV, geV, sumV, maxV, minV, allV, anyV, sortV, sNext, sSeq, sNever, sBreak, sDrop, sRet, sRetN, sIf, gN, gNl, gCn, gTp, gSb, sAsg, sPar, vVar, vC, vNil, vCons, vTup, vLst, v2, addV, intsV, ints0V, mulV, vNeg, eqV', neV', inV', isV, VL.isNon, vTest, vChain, vAnd, vOr, vNot, vAndV, vOrV, vNotV, vIf, ixV, vNo, vPart, vSl, sliceV, vLc_eq, vDc_eq, sFor_eq, sWhile_eq, iSq, iRg1, iRg2, iEn, iZp, vCB, lenV, listV, tupleV, intV1, absV1, ofInts, ofBls, two, vIsi, vM, vM0, appendV, extendV, popV, popAtV, vIndex, vDnew, vCall, sRaise, vYes, vRev, getV, startV, wipeV, asSq_of (s9 _ _ q4), f0]
      exact hK _ (.refl _)
    · simp [ltV, leV, gtV, geV, sumV, maxV, minV, allV, anyV, sortV, sNext, sSeq, sNever, sBreak, sDrop, sRet, sRetN, sIf, gN, gNl, gCn, gTp, gSb, sAsg, sPar, vVar, vC, vNil, vCons, vTup, vLst, v2, addV, intsV, ints0V, mulV, vNeg, eqV', neV', inV', isV, VL.isNon, vTest, vChain, vAnd, vOr, vNot, vAndV, vOrV, vNotV, vIf, ixV, vNo, vPart, vSl, sliceV, vLc_eq, vDc_eq, sFor_eq, sWhile_eq, iSq, iRg1, iRg2, iEn, iZp, vCB, lenV, listV, tupleV, intV1, absV1, ofInts, ofBls, two, vIsi, vM, vM0, appendV, extendV, popV, popAtV, vIndex, vDnew, vCall, sRaise, vYes, vRev, getV, startV, wipeV]
      exact srch_ok v c (by rw [hst0]; exact hK _ (.refl _))
    simp only [↓reduceIte]
    have q1 := s9 _ _ q1
    have s9 := s8.trans s9
    refine sLater_i ?_
    simp [ltV, leV, gtV, geV, sumV, maxV, minV, allV, anyV, sortV, sNext, sSeq, sNever, sBreak, sDrop, sRet, sRetN, sIf, gN, gNl, gCn, gTp, gSb, sAsg, sPar, vVar, vC, vNil, vCons, vTup, vLst, v2, addV, intsV, ints0V, mulV, vNeg, eqV', neV', inV', isV, VL.isNon, vTest, vChain, vAnd, vOr, vNot, vAndV, vOrV, vNotV, vIf, ixV, vNo, vPart, vSl, sliceV, vLc_eq, vDc_eq, sFor_eq, sWhile_eq, iSq, iRg1, iRg2, iEn, iZp, vCB, lenV, listV, tupleV, intV1, absV1, ofInts, ofBls, two, vIsi, vM, vM0, appendV, extendV, popV, popAtV, vIndex, vDnew, vCall, sRaise, vYes, vRev, getV, startV, wipeV]
    intro p9 hp9 p10 hp10
    have n910 : p10 ≠ p9 := fun z => by subst z; rw [vput_same] at hp10; cases hp10
    refine sLater_i ?_
    have t9 := putO (c := .lst []) (vput_same (vh := w9) (a := p9) (c := .lst [])) hp10
    have t10 := vput_same (vh := vput w9 p9 (.lst [])) (a := p10) (c := .lst [])
    have t1 := putO (c := .lst []) (putO (c := .lst []) q1 hp9) hp10
    have s10 := (s9.put' (c := .lst []) hp9).put' (c := .lst []) hp10
    have z9 : vh p9 = none := s9.no hp9
    have z10 : vh p10 = none := (s9.put' (c := .lst []) hp9).no hp10
    have n1 : p ≠ p9 := fun z => by subst z; rw [q1] at hp9; cases hp9
    have n2 : p ≠ p10 := fun z => by subst z; rw [putO q1 hp9] at hp10; cases hp10
    generalize vput (vput w9 p9 (.lst [])) p10 (.lst []) = w10 at *
    simp [ltV, leV, gtV, geV, sumV, maxV, minV, allV, anyV, sortV, sNext, sSeq, sNever, sBreak, sDrop, sRet, sRetN, sIf, gN, gNl, gCn, gTp, gSb, sAsg, sPar, vVar, vC, vNil, vCons, vTup, vLst, v2, addV, intsV, ints0V, mulV, vNeg, eqV', neV', inV', isV, VL.isNon, vTest, vChain, vAnd, vOr, vNot, vAndV, vOrV, vNotV, vIf, ixV, vNo, vPart, vSl, sliceV, vLc_eq, vDc_eq, sFor_eq, sWhile_eq, iSq, iRg1, iRg2, iEn, iZp, vCB, lenV, listV, tupleV, intV1, absV1, ofInts, ofBls, two, vIsi, vM, vM0, appendV, extendV, popV, popAtV, vIndex, vDnew, vCall, sRaise, vYes, vRev, getV, startV, wipeV]
    rw [asSq_of t1]
    refine ForB.ofk (stL W) tupI rfl (fun pre Γ vh' => SubH vh vh' ∧ vh' p = some (.lst ((stL W).map tupI)) ∧ (∃ a b d e g, Γ = [some (WU W), some (.ref p), none, none, some (.ref p4), a, b, d, g, some (.ref p9), some (.ref p10), e]) ∧ vh' p9 = some (tpU (pre.map fun m => (rksL W m).sum)) ∧ vh' p10 = some (tpU (pre.map fun m => mxL (rksL W m))))
      (fun _ _ _ h => asSq_of h.2.1) ⟨s10, t1, ⟨_, _, _, _, _, rfl⟩, t9, t10⟩ (fun Γ1 w11 ⟨s11, a1, ⟨a, b, d, e, g, hΓ⟩, a9, a10⟩ => ?_) fun pre m suf Γ1 w11 hpre ⟨s11, a1, ⟨a, b, d, e, g, hΓ⟩, a9, a10⟩ => ?_
    · subst hΓ
      dsimp only
      refine sLater_i ?_
      simp [ltV, leV, gtV, geV, sumV, maxV, minV, allV, anyV, sortV, sNext, sSeq, sNever, sBreak, sDrop, sRet, sRetN, sIf, gN, gNl, gCn, gTp, gSb, sAsg, sPar, vVar, vC, vNil, vCons, vTup, vLst, v2, addV, intsV, ints0V, mulV, vNeg, eqV', neV', inV', isV, VL.isNon, vTest, vChain, vAnd, vOr, vNot, vAndV, vOrV, vNotV, vIf, ixV, vNo, vPart, vSl, sliceV, vLc_eq, vDc_eq, sFor_eq, sWhile_eq, iSq, iRg1, iRg2, iEn, iZp, vCB, lenV, listV, tupleV, intV1, absV1, ofInts, ofBls, two, vIsi, vM, vM0, appendV, extendV, popV, popAtV, vIndex, vDnew, vCall, sRaise, vYes, vRev, getV, startV, wipeV]
      have hpos : 0 < (stL W).length := by rw [hst0]; simp
      have hlen9 : 0 < ((stL W).map fun m => (rksL W m).sum).length := by simpa using hpos
      have hlen10 : 0 < ((stL W).map fun m => mxL (rksL W m)).length := by simpa using hpos
      refine vIs_val (du := tupI (cheap W)) (by omega) (.head _) (okD_tupI _) (fun w12 s12 K hK => ?_) (fun w12 s12 K Zx hK => ?_) fun w12 s12 => ?_
      · have b9 := s12 _ _ a9
        simp [ltV, leV, gtV, geV, sumV, maxV, minV, allV, anyV, sortV, sNext, sSeq, sNever, sBreak, sDrop, sRet, sRetN, sIf, gN, gNl, gCn, gTp, gSb, sAsg, sPar, vVar, vC, vNil, vCons, vTup, vLst, v2, addV, intsV, ints0V, mulV, vNeg, eqV', neV', inV', isV, VL.isNon, vTest, vChain, vAnd, vOr, vNot, vAndV, vOrV, vNotV, vIf, ixV, vNo, vPart, vSl, sliceV, vLc_eq, vDc_eq, sFor_eq, sWhile_eq, iSq, iRg1, iRg2, iEn, iZp, vCB, lenV, listV, tupleV, intV1, absV1, ofInts, ofBls, two, vIsi, vM, vM0, appendV, extendV, popV, popAtV, vIndex, vDnew, vCall, sRaise, vYes, vRev, getV, startV, wipeV, asSq_of (s12 _ _ a1), isSqF, asL_of b9, asSq_of b9, intsOf_map]
        rw [← List.map_map, intsOf_map]
        refine ⟨hlen9, fun mn hm hle => ⟨rfl, okDs_ints _ _, ?_⟩⟩
        rw [idxU_ints hm]
        have hj : ((stL W).map fun m => (rksL W m).sum).idxOf mn < (stL W).length := by simpa using List.idxOf_lt_length_iff.2 hm
        have hat : L2.atI ((stL W).map tupI) ((((stL W).map fun m => (rksL W m).sum).idxOf mn : Nat) : Int) = some (tupI (stAt W (((stL W).map fun m => (rksL W m).sum).idxOf mn))) := at_map (by omega) (by simp [stAt, List.getD_eq_getElem?_getD, hj])
        simp only [hat]
        rw [← cheap_eq c hm hle]
        exact hK _ (.refl _)
      · simp [ltV, leV, gtV, geV, sumV, maxV, minV, allV, anyV, sortV, sNext, sSeq, sNever, sBreak, sDrop, sRet, sRetN, sIf, gN, gNl, gCn, gTp, gSb, sAsg, sPar, vVar, vC, vNil, vCons, vTup, vLst, v2, addV, intsV, ints0V, mulV, vNeg, eqV', neV', inV', isV, VL.isNon, vTest, vChain, vAnd, vOr, vNot, vAndV, vOrV, vNotV, vIf, ixV, vNo, vPart, vSl, sliceV, vLc_eq, vDc_eq, sFor_eq, sWhile_eq, iSq, iRg1, iRg2, iEn, iZp, vCB, lenV, listV, tupleV, intV1, absV1, ofInts, ofBls, two, vIsi, vM, vM0, appendV, extendV, popV, popAtV, vIndex, vDnew, vCall, sRaise, vYes, vRev, getV, startV, wipeV]
        exact srch_ok v c (hK _ (.refl _))
      simp only [↓reduceIte]
      refine sLater_i ?_
      simp [ltV, leV, gtV, geV, sumV, maxV, minV, allV, anyV, sortV, sNext, sSeq, sNever, sBreak, sDrop, sRet, sRetN, sIf, gN, gNl, gCn, gTp, gSb, sAsg, sPar, vVar, vC, vNil, vCons, vTup, vLst, v2, addV, intsV, ints0V, mulV, vNeg, eqV', neV', inV', isV, VL.isNon, vTest, vChain, vAnd, vOr, vNot, vAndV, vOrV, vNotV, vIf, ixV, vNo, vPart, vSl, sliceV, vLc_eq, vDc_eq, sFor_eq, sWhile_eq, iSq, iRg1, iRg2, iEn, iZp, vCB, lenV, listV, tupleV, intV1, absV1, ofInts, ofBls, two, vIsi, vM, vM0, appendV, extendV, popV, popAtV, vIndex, vDnew, vCall, sRaise, vYes, vRev, getV, startV, wipeV]
      refine vIs_val (du := tupI (kind W)) (by omega) (.head _) (okD_tupI _) (fun w14 s14 K hK => ?_) (fun w14 s14 K Zx hK => ?_) fun w14 s14 => ?_
      · have b10 := s14 _ _ (s12 _ _ a10)
        simp [ltV, leV, gtV, geV, sumV, maxV, minV, allV, anyV, sortV, sNext, sSeq, sNever, sBreak, sDrop, sRet, sRetN, sIf, gN, gNl, gCn, gTp, gSb, sAsg, sPar, vVar, vC, vNil, vCons, vTup, vLst, v2, addV, intsV, ints0V, mulV, vNeg, eqV', neV', inV', isV, VL.isNon, vTest, vChain, vAnd, vOr, vNot, vAndV, vOrV, vNotV, vIf, ixV, vNo, vPart, vSl, sliceV, vLc_eq, vDc_eq, sFor_eq, sWhile_eq, iSq, iRg1, iRg2, iEn, iZp, vCB, lenV, listV, tupleV, intV1, absV1, ofInts, ofBls, two, vIsi, vM, vM0, appendV, extendV, popV, popAtV, vIndex, vDnew, vCall, sRaise, vYes, vRev, getV, startV, wipeV, asSq_of (s14 _ _ (s12 _ _ a1)), isSqF, asL_of b10, asSq_of b10, intsOf_map]
        rw [← List.map_map, intsOf_map]
        refine ⟨hlen10, fun mn hm hle => ⟨rfl, okDs_ints _ _, ?_⟩⟩
        rw [idxU_ints hm]
        have hj : ((stL W).map fun m => mxL (rksL W m)).idxOf mn < (stL W).length := by simpa using List.idxOf_lt_length_iff.2 hm
        have hat : L2.atI ((stL W).map tupI) ((((stL W).map fun m => mxL (rksL W m)).idxOf mn : Nat) : Int) = some (tupI (stAt W (((stL W).map fun m => mxL (rksL W m)).idxOf mn))) := at_map (by omega) (by simp [stAt, List.getD_eq_getElem?_getD, hj])
        simp only [hat]
        rw [← kind_eq c hm hle]
        exact hK _ (.refl _)
      · simp [ltV, leV, gtV, geV, sumV, maxV, minV, allV, anyV, sortV, sNext, sSeq, sNever, sBreak, sDrop, sRet, sRetN, sIf, gN, gNl, gCn, gTp, gSb, sAsg, sPar, vVar, vC, vNil, vCons, vTup, vLst, v2, addV, intsV, ints0V, mulV, vNeg, eqV', neV', inV', isV, VL.isNon, vTest, vChain, vAnd, vOr, vNot, vAndV, vOrV, vNotV, vIf, ixV, vNo, vPart, vSl, sliceV, vLc_eq, vDc_eq, sFor_eq, sWhile_eq, iSq, iRg1, iRg2, iEn, iZp, vCB, lenV, listV, tupleV, intV1, absV1, ofInts, ofBls, two, vIsi, vM, vM0, appendV, extendV, popV, popAtV, vIndex, vDnew, vCall, sRaise, vYes, vRev, getV, startV, wipeV]
        exact srch_ok v c (hK _ (.refl _))
      exact RD.of r ((s11.trans s12).trans s14)
    · subst hΓ
      have g' := st_gm v (show m ∈ stL W by rw [hpre]; simp)
      have hpl : pre.length < (stL W).length := by rw [hpre]; simp
      have hrl : (rksL W m).length ≤ 8 := by simp [rksL, rng_len]; omega
      simp [ltV, leV, gtV, geV, sumV, maxV, minV, allV, anyV, sortV, sNext, sSeq, sNever, sBreak, sDrop, sRet, sRetN, sIf, gN, gNl, gCn, gTp, gSb, sAsg, sPar, vVar, vC, vNil, vCons, vTup, vLst, v2, addV, intsV, ints0V, mulV, vNeg, eqV', neV', inV', isV, VL.isNon, vTest, vChain, vAnd, vOr, vNot, vAndV, vOrV, vNotV, vIf, ixV, vNo, vPart, vSl, sliceV, vLc_eq, vDc_eq, sFor_eq, sWhile_eq, iSq, iRg1, iRg2, iEn, iZp, vCB, lenV, listV, tupleV, intV1, absV1, ofInts, ofBls, two, vIsi, vM, vM0, appendV, extendV, popV, popAtV, vIndex, vDnew, vCall, sRaise, vYes, vRev, getV, startV, wipeV, tupI]
      rw [enum_m]
      refine LcB.subm (rng 0 m.length) _ (fun i => some (.int (rk W i (iAt m i)))) rfl (fun _ _ => trivial) (by rw [rng_len, g'.len]; omega) (fun w12 s12 pk hpk => ?_) fun x hx w12 s12 K hK => ?_
      rotate_left
      · have hx := mem_rng.1 hx
        rw [g'.len] at hx
        simp [ltV, leV, gtV, geV, sumV, maxV, minV, allV, anyV, sortV, sNext, sSeq, sNever, sBreak, sDrop, sRet, sRetN, sIf, gN, gNl, gCn, gTp, gSb, sAsg, sPar, vVar, vC, vNil, vCons, vTup, vLst, v2, addV, intsV, ints0V, mulV, vNeg, eqV', neV', inV', isV, VL.isNon, vTest, vChain, vAnd, vOr, vNot, vAndV, vOrV, vNotV, vIf, ixV, vNo, vPart, vSl, sliceV, vLc_eq, vDc_eq, sFor_eq, sWhile_eq, iSq, iRg1, iRg2, iEn, iZp, vCB, lenV, listV, tupleV, intV1, absV1, ofInts, ofBls, two, vIsi, vM, vM0, appendV, extendV, popV, popAtV, vIndex, vDnew, vCall, sRaise, vYes, vRev, getV, startV, wipeV]
        exact f_rank_by hx.1 hx.2 (g'.ok x hx.1 hx.2) (hK _ s12)
      rw [fm_some]
      have e : (rng 0 m.length).map (fun i => U.int (rk W i (iAt m i))) = (rksL W m).map U.int := by rw [g'.len]; simp [rksL]
      rw [e]
      have b9 := putO (c := .lst ((rksL W m).map U.int)) (s12 _ _ a9) hpk
      have b10 := putO (c := .lst ((rksL W m).map U.int)) (s12 _ _ a10) hpk
      have b1 := putO (c := .lst ((rksL W m).map U.int)) (s12 _ _ a1) hpk
      have bk := vput_same (vh := w12) (a := pk) (c := .lst ((rksL W m).map U.int))
      have nk9 : pk ≠ p9 := fun z => by subst z; rw [s12 _ _ a9] at hpk; cases hpk
      have nk10 : pk ≠ p10 := fun z => by subst z; rw [s12 _ _ a10] at hpk; cases hpk
      have s13 := (s11.trans s12).put' (c := .lst ((rksL W m).map U.int)) hpk
      generalize vput w12 pk (.lst ((rksL W m).map U.int)) = w13 at *
      refine sLater_i ?_
      simp [ltV, leV, gtV, geV, sumV, maxV, minV, allV, anyV, sortV, sNext, sSeq, sNever, sBreak, sDrop, sRet, sRetN, sIf, gN, gNl, gCn, gTp, gSb, sAsg, sPar, vVar, vC, vNil, vCons, vTup, vLst, v2, addV, intsV, ints0V, mulV, vNeg, eqV', neV', inV', isV, VL.isNon, vTest, vChain, vAnd, vOr, vNot, vAndV, vOrV, vNotV, vIf, ixV, vNo, vPart, vSl, sliceV, vLc_eq, vDc_eq, sFor_eq, sWhile_eq, iSq, iRg1, iRg2, iEn, iZp, vCB, lenV, listV, tupleV, intV1, absV1, ofInts, ofBls, two, vIsi, vM, vM0, appendV, extendV, popV, popAtV, vIndex, vDnew, vCall, sRaise, vYes, vRev, getV, startV, wipeV, asL_of bk, asL_of b9, ownL_of b9, intsOf_map]
      refine ⟨by omega, sLater_i ?_⟩
      have d9 := vput_same (vh := w13) (a := p9) (c := .lst ((pre.map (U.int ∘ fun m => (rksL W m).sum)) ++ [U.int (rksL W m).sum]))
      have d10 : vput w13 p9 (.lst ((pre.map (U.int ∘ fun m => (rksL W m).sum)) ++ [U.int (rksL W m).sum])) p10 = some (tpU (pre.map fun m => mxL (rksL W m))) := by rw [vput_ne n910]; exact b10
      have dk : vput w13 p9 (.lst ((pre.map (U.int ∘ fun m => (rksL W m).sum)) ++ [U.int (rksL W m).sum])) pk = some (.lst ((rksL W m).map U.int)) := by rw [vput_ne nk9]; exact bk
      have d1 : vput w13 p9 (.lst ((pre.map (U.int ∘ fun m => (rksL W m).sum)) ++ [U.int (rksL W m).sum])) p = some (.lst ((stL W).map tupI)) := by rw [vput_ne n1]; exact b1
      have s14 : SubH vh (vput w13 p9 (.lst ((pre.map (U.int ∘ fun m => (rksL W m).sum)) ++ [U.int (rksL W m).sum]))) := s13.put z9
      generalize vput w13 p9 (.lst ((pre.map (U.int ∘ fun m => (rksL W m).sum)) ++ [U.int (rksL W m).sum])) = w14 at *
      simp [ltV, leV, gtV, geV, sumV, maxV, minV, allV, anyV, sortV, sNext, sSeq, sNever, sBreak, sDrop, sRet, sRetN, sIf, gN, gNl, gCn, gTp, gSb, sAsg, sPar, vVar, vC, vNil, vCons, vTup, vLst, v2, addV, intsV, ints0V, mulV, vNeg, eqV', neV', inV', isV, VL.isNon, vTest, vChain, vAnd, vOr, vNot, vAndV, vOrV, vNotV, vIf, ixV, vNo, vPart, vSl, sliceV, vLc_eq, vDc_eq, sFor_eq, sWhile_eq, iSq, iRg1, iRg2, iEn, iZp, vCB, lenV, listV, tupleV, intV1, absV1, ofInts, ofBls, two, vIsi, vM, vM0, appendV, extendV, popV, popAtV, vIndex, vDnew, vCall, sRaise, vYes, vRev, getV, startV, wipeV, asL_of d10]
      refine ⟨by omega, fun p15 hp15 => ?_⟩
      have ek := putO (c := .lst [U.int 0]) dk hp15
      simp only [ownL_new, ownL_of ek]
      refine ⟨by simp only [List.length_map, List.length_cons, List.length_nil]; omega, fun p16 hp16 => ?_⟩
      have e1' : [U.int 0] ++ (rksL W m).map U.int = ((0 : Int) :: rksL W m).map U.int := rfl
      rw [e1']
      have x9 := putO (c := .lst (((0 : Int) :: rksL W m).map U.int)) (putO (c := .lst [U.int 0]) d9 hp15) hp16
      have x10 := putO (c := .lst (((0 : Int) :: rksL W m).map U.int)) (putO (c := .lst [U.int 0]) d10 hp15) hp16
      have x1 := putO (c := .lst (((0 : Int) :: rksL W m).map U.int)) (putO (c := .lst [U.int 0]) d1 hp15) hp16
      have s16 := (s14.put' (c := .lst [U.int 0]) hp15).put' (c := .lst (((0 : Int) :: rksL W m).map U.int)) hp16
      simp only [asL_new, intsOf_map]
      refine ⟨Nat.succ_pos _, fun mm h1 h2 => ?_⟩
      have hmm := mxL_eq h1 h2
      subst hmm
      simp only [ownL_of x10]
      refine ⟨by simp only [List.length_map]; omega, s16.put z10, ?_, ?_, ?_⟩
      · rw [vput_ne n2]; exact x1
      · rw [vput_ne (Ne.symm n910)]; rw [x9]; simp
      · rw [vput_same]; simp
end K75

-- part B25
set_option Elab.async false
set_option linter.all false
set_option maxRecDepth 100000
set_option maxHeartbeats 2000000
/-! Plain laws, part 25: law. -/
namespace K75
open PySem PySem.Spec PyProof.Rows L2 VL LamX
def F_law : FV := fun us vh R _ => ∃ x ns, us = [x] ∧ Scr vh x ns ∧ ns.length ≤ 63 ∧ R (.bl true) vh
theorem f_tape {x : U} {ns : List Int} {m s : Int} {vh : VH} {R : U → VH → Prop} {Z : XV} (h0 : Scr vh x ns) (h1 : ns.length ≤ 63) (h2 : 0 ≤ m) (h3 : m ≤ 1000) (h4 : 0 ≤ s) (h5 : s ≤ 1000) (r : ∀ ts : List Int, newL vh (ts.map U.int) R) : F_tape [x, .int m, .int s] vh R Z := ⟨x, ns, m, s, rfl, h0, h1, h2, h3, h4, h5, r⟩
theorem f_wishes {a : Addr} {m s : Int} {ns : List Int} {vh : VH} {R : U → VH → Prop} {Z : XV} (h : vh a = some (tpU ns)) (h1 : 0 ≤ m) (h2 : m ≤ 8) (h3 : 0 < s) (h4 : s ≤ 1000) (r : ∀ W ns', VW W → R (WU W) (vput vh a (tpU ns'))) : F_wishes [.ref a, .int m, .int s] vh R Z := ⟨a, m, s, ns, rfl, h, h1, h2, h3, h4, r⟩
theorem f_right {W : List (List Int)} {vh : VH} {R : U → VH → Prop} {Z : XV} (v : VW W) (r : R (.bl true) vh) : F_right [WU W] vh R Z := ⟨W, rfl, v, r⟩
theorem f_many {a : Addr} {ns : List Int} {vh : VH} {R : U → VH → Prop} {Z : XV} (h : vh a = some (tpU ns)) (r : ∀ h ns', h = 2 ∨ h = 3 ∨ h = 4 → R (WU (manyW h)) (vput vh a (tpU ns'))) : F_many [.ref a] vh R Z := ⟨a, ns, rfl, h, r⟩
theorem f_bent {S : SS} {a : Addr} {ns : List Int} {W : List (List Int)} {vh : VH} {R : U → VH → Prop} {Z : XV} (h : vh a = some (tpU ns)) (v : VW W) (r : ∀ u pl ns' vh', SubH (vput vh a (tpU ns')) vh' → Bd S vh' u pl → okD 1 pl = true → R (.tup [u, pl]) vh') : F_bent S [.ref a, WU W] vh R Z := ⟨a, ns, W, rfl, h, v, r⟩
theorem f_steady {S : SS} {c : Addr} {W : List (List Int)} {vh : VH} {R : U → VH → Prop} {Z : XV} (v : VW W) (r : R (.tup ((stL W).map tupI)) vh) : F_all_steady S c [WU W] vh R Z := .inl ⟨W, rfl, v, r⟩
theorem Bd.sub {S : SS} {vh vh' : VH} {u pl : U} (b : Bd S vh u pl) (s : SubH vh vh') : Bd S vh' u pl := ⟨b.1.sub s, fun h x hx => ⟨(b.2.1 h x hx).1.sub s, fun y hy => ((b.2.1 h x hx).2 y hy).sub s⟩, b.2.2⟩
theorem b_law {S : SS} {c1 c2 : Addr} {mk_1 : Addr → Clo} {mk_2 mk_3 mk_4 : Addr → Addr → Clo} : BodyV F_law 9 1 (t_law S (F_bent S) (FLike 3) F_many F_right F_take F_tape F_wishes (F_all_steady S c1) (F_always_alone S c1 c2) (F_cheapest S c1 c2) (F_kindest S c1 c2) 3 (tcs c1 c2) mk_1 mk_2 mk_3 mk_4) := by
  rintro us vh R Z hl ⟨scr, ns, rfl, hscr, hn, r⟩
  clear hl
  have hz := sz1m
  simp only [t_law]
  simp [ltV, leV, gtV, geV, sumV, maxV, minV, allV, anyV, sortV, sNext, sSeq, sNever, sBreak, sDrop, sRet, sRetN, sIf, gN, gNl, gCn, gTp, gSb, sAsg, sPar, vVar, vC, vNil, vCons, vTup, vLst, v2, addV, intsV, ints0V, mulV, vNeg, eqV', neV', inV', isV, VL.isNon, vTest, vChain, vAnd, vOr, vNot, vAndV, vOrV, vNotV, vIf, ixV, vNo, vPart, vSl, sliceV, vLc_eq, vDc_eq, sFor_eq, sWhile_eq, iSq, iRg1, iRg2, iEn, iZp, vCB, lenV, listV, tupleV, intV1, absV1, ofInts, ofBls, two, vIsi, vM, vM0, appendV, extendV, popV, popAtV, vIndex, vDnew, vCall, sRaise, vYes, vRev, getV, startV, wipeV]
  refine f_tape hscr hn (by omega) (by omega) (by omega) (by omega) fun ts a ha => sLater_i ?_
  simp [ltV, leV, gtV, geV, sumV, maxV, minV, allV, anyV, sortV, sNext, sSeq, sNever, sBreak, sDrop, sRet, sRetN, sIf, gN, gNl, gCn, gTp, gSb, sAsg, sPar, vVar, vC, vNil, vCons, vTup, vLst, v2, addV, intsV, ints0V, mulV, vNeg, eqV', neV', inV', isV, VL.isNon, vTest, vChain, vAnd, vOr, vNot, vAndV, vOrV, vNotV, vIf, ixV, vNo, vPart, vSl, sliceV, vLc_eq, vDc_eq, sFor_eq, sWhile_eq, iSq, iRg1, iRg2, iEn, iZp, vCB, lenV, listV, tupleV, intV1, absV1, ofInts, ofBls, two, vIsi, vM, vM0, appendV, extendV, popV, popAtV, vIndex, vDnew, vCall, sRaise, vYes, vRev, getV, startV, wipeV]
  refine ⟨b62 (by omega) (by omega), ?_⟩
  have nw : ∀ c, SubH vh (vput vh a c) := fun c => (SubH.refl _).put ha
  have s0 : SubH vh (vput vh a (tpU ts)) := nw _
  rw [show rngU 0 6 = (rng 0 (6 : Nat)).map U.int from rngU0 6]
  refine ForB.ofm (rng 0 (6 : Nat)) U.int rfl (fun _ => trivial) (fun _ Γ vh' => SubH vh vh' ∧ (∃ b, Γ = [some scr, some (.ref a), b, none, none, none, none, none, none]) ∧ ∃ ts', vh' a = some (tpU ts'))
    ⟨s0, ⟨_, rfl⟩, ts, vput_same⟩ (fun Γ1 w1 ⟨s1, ⟨b1, hΓ⟩, ts1, a1⟩ => ?_) fun pre x suf Γ1 w1 _ ⟨s1, ⟨b1, hΓ⟩, ts1, a1⟩ => ?_
  rotate_left
  · subst hΓ
    simp [ltV, leV, gtV, geV, sumV, maxV, minV, allV, anyV, sortV, sNext, sSeq, sNever, sBreak, sDrop, sRet, sRetN, sIf, gN, gNl, gCn, gTp, gSb, sAsg, sPar, vVar, vC, vNil, vCons, vTup, vLst, v2, addV, intsV, ints0V, mulV, vNeg, eqV', neV', inV', isV, VL.isNon, vTest, vChain, vAnd, vOr, vNot, vAndV, vOrV, vNotV, vIf, ixV, vNo, vPart, vSl, sliceV, vLc_eq, vDc_eq, sFor_eq, sWhile_eq, iSq, iRg1, iRg2, iEn, iZp, vCB, lenV, listV, tupleV, intV1, absV1, ofInts, ofBls, two, vIsi, vM, vM0, appendV, extendV, popV, popAtV, vIndex, vDnew, vCall, sRaise, vYes, vRev, getV, startV, wipeV]
    refine ⟨by omega, f_take a1 (by omega) fun t ns1 h0 h1 => ?_⟩
    have hc : t = (0 : Nat) ∨ t = (1 : Nat) ∨ t = (2 : Nat) := by omega
    obtain ⟨m, g0, g1, hm⟩ : ∃ m : Int, 0 ≤ m ∧ m ≤ 8 ∧ L2.atI [U.int 5, U.int 6, U.int 8] t = some (.int m) := by
      rcases hc with h | h | h
      · exact ⟨5, by omega, by omega, atI_nat h rfl⟩
      · exact ⟨6, by omega, by omega, atI_nat h rfl⟩
      · exact ⟨8, by omega, by omega, atI_nat h rfl⟩
    simp only [hm]
    refine f_take vput_same (by omega) fun t2 ns2 h20 h21 => ?_
    rw [vput_vput]
    refine f_wishes vput_same g0 g1 (by omega) (by omega) fun W ns3 v => f_right v ?_
    rw [vput_vput]
    simp only [↓reduceIte]
    exact ⟨s1.put ha, ns3, vput_same⟩
  · subst hΓ
    dsimp only
    refine sLater_i ?_
    simp [ltV, leV, gtV, geV, sumV, maxV, minV, allV, anyV, sortV, sNext, sSeq, sNever, sBreak, sDrop, sRet, sRetN, sIf, gN, gNl, gCn, gTp, gSb, sAsg, sPar, vVar, vC, vNil, vCons, vTup, vLst, v2, addV, intsV, ints0V, mulV, vNeg, eqV', neV', inV', isV, VL.isNon, vTest, vChain, vAnd, vOr, vNot, vAndV, vOrV, vNotV, vIf, ixV, vNo, vPart, vSl, sliceV, vLc_eq, vDc_eq, sFor_eq, sWhile_eq, iSq, iRg1, iRg2, iEn, iZp, vCB, lenV, listV, tupleV, intV1, absV1, ofInts, ofBls, two, vIsi, vM, vM0, appendV, extendV, popV, popAtV, vIndex, vDnew, vCall, sRaise, vYes, vRev, getV, startV, wipeV]
    refine f_many a1 fun h ns2 hh => sLater_i ?_
    have v := vw_many hh
    have hms := many_steady hh
    have s2 : SubH vh (vput w1 a (tpU ns2)) := s1.put ha
    have a2 : vput w1 a (tpU ns2) a = some (tpU ns2) := vput_same
    generalize vput w1 a (tpU ns2) = w2' at *
    simp [ltV, leV, gtV, geV, sumV, maxV, minV, allV, anyV, sortV, sNext, sSeq, sNever, sBreak, sDrop, sRet, sRetN, sIf, gN, gNl, gCn, gTp, gSb, sAsg, sPar, vVar, vC, vNil, vCons, vTup, vLst, v2, addV, intsV, ints0V, mulV, vNeg, eqV', neV', inV', isV, VL.isNon, vTest, vChain, vAnd, vOr, vNot, vAndV, vOrV, vNotV, vIf, ixV, vNo, vPart, vSl, sliceV, vLc_eq, vDc_eq, sFor_eq, sWhile_eq, iSq, iRg1, iRg2, iEn, iZp, vCB, lenV, listV, tupleV, intV1, absV1, ofInts, ofBls, two, vIsi, vM, vM0, appendV, extendV, popV, popAtV, vIndex, vDnew, vCall, sRaise, vYes, vRev, getV, startV, wipeV]
    refine f_right v ?_
    simp only [↓reduceIte]
    refine f_steady v ?_
    simp only [asSq_tup, List.length_map]
    have hlen : (manyW h).length ≠ 0 := by rcases hh with rfl | rfl | rfl <;> decide
    have h2 : ((manyW h).length : Int).fdiv 2 = ((manyW h).length : Int) / 2 := Int.fdiv_eq_ediv_of_nonneg _ (by omega)
    refine ⟨by unfold CDivN; omega, ?_⟩
    rw [h2, if_neg (by omega)]
    refine sLater_i ?_
    generalize manyW h = W at *
    simp [ltV, leV, gtV, geV, sumV, maxV, minV, allV, anyV, sortV, sNext, sSeq, sNever, sBreak, sDrop, sRet, sRetN, sIf, gN, gNl, gCn, gTp, gSb, sAsg, sPar, vVar, vC, vNil, vCons, vTup, vLst, v2, addV, intsV, ints0V, mulV, vNeg, eqV', neV', inV', isV, VL.isNon, vTest, vChain, vAnd, vOr, vNot, vAndV, vOrV, vNotV, vIf, ixV, vNo, vPart, vSl, sliceV, vLc_eq, vDc_eq, sFor_eq, sWhile_eq, iSq, iRg1, iRg2, iEn, iZp, vCB, lenV, listV, tupleV, intV1, absV1, ofInts, ofBls, two, vIsi, vM, vM0, appendV, extendV, popV, popAtV, vIndex, vDnew, vCall, sRaise, vYes, vRev, getV, startV, wipeV]
    refine ⟨b62 (by omega) (by omega), ?_⟩
    rw [show rngU 0 5 = (rng 0 (5 : Nat)).map U.int from rngU0 5]
    refine ForB.ofm (rng 0 (5 : Nat)) U.int rfl (fun _ => trivial) (fun _ Γ vh' => SubH vh vh' ∧ (∃ b c d e, Γ = [some scr, some (.ref a), b, some (WU W), c, d, e, none, none]) ∧ ∃ ts', vh' a = some (tpU ts'))
      ⟨s2, ⟨_, _, _, _, rfl⟩, ns2, a2⟩ (fun Γ3 w3' ⟨s3, ⟨b, c, d, e, hΓ⟩, ts3, a3⟩ => ?_) fun pre x suf Γ3 w3' _ ⟨s3, ⟨b, c, d, e, hΓ⟩, ts3, a3⟩ => ?_
    rotate_left
    · subst hΓ
      simp [ltV, leV, gtV, geV, sumV, maxV, minV, allV, anyV, sortV, sNext, sSeq, sNever, sBreak, sDrop, sRet, sRetN, sIf, gN, gNl, gCn, gTp, gSb, sAsg, sPar, vVar, vC, vNil, vCons, vTup, vLst, v2, addV, intsV, ints0V, mulV, vNeg, eqV', neV', inV', isV, VL.isNon, vTest, vChain, vAnd, vOr, vNot, vAndV, vOrV, vNotV, vIf, ixV, vNo, vPart, vSl, sliceV, vLc_eq, vDc_eq, sFor_eq, sWhile_eq, iSq, iRg1, iRg2, iEn, iZp, vCB, lenV, listV, tupleV, intV1, absV1, ofInts, ofBls, two, vIsi, vM, vM0, appendV, extendV, popV, popAtV, vIndex, vDnew, vCall, sRaise, vYes, vRev, getV, startV, wipeV]
      refine f_bent a3 v fun u pl ns4 w4 s4 bd ok => ?_
      have s4' : SubH vh w4 := (s3.put ha).trans s4
      have a4 := s4 _ _ vput_same
      simp [ltV, leV, gtV, geV, sumV, maxV, minV, allV, anyV, sortV, sNext, sSeq, sNever, sBreak, sDrop, sRet, sRetN, sIf, gN, gNl, gCn, gTp, gSb, sAsg, sPar, vVar, vC, vNil, vCons, vTup, vLst, v2, addV, intsV, ints0V, mulV, vNeg, eqV', neV', inV', isV, VL.isNon, vTest, vChain, vAnd, vOr, vNot, vAndV, vOrV, vNotV, vIf, ixV, vNo, vPart, vSl, sliceV, vLc_eq, vDc_eq, sFor_eq, sWhile_eq, iSq, iRg1, iRg2, iEn, iZp, vCB, lenV, listV, tupleV, intV1, absV1, ofInts, ofBls, two, vIsi, vM, vM0, appendV, extendV, popV, popAtV, vIndex, vDnew, vCall, sRaise, vYes, vRev, getV, startV, wipeV]
      refine sLater_i ?_
      simp [ltV, leV, gtV, geV, sumV, maxV, minV, allV, anyV, sortV, sNext, sSeq, sNever, sBreak, sDrop, sRet, sRetN, sIf, gN, gNl, gCn, gTp, gSb, sAsg, sPar, vVar, vC, vNil, vCons, vTup, vLst, v2, addV, intsV, ints0V, mulV, vNeg, eqV', neV', inV', isV, VL.isNon, vTest, vChain, vAnd, vOr, vNot, vAndV, vOrV, vNotV, vIf, ixV, vNo, vPart, vSl, sliceV, vLc_eq, vDc_eq, sFor_eq, sWhile_eq, iSq, iRg1, iRg2, iEn, iZp, vCB, lenV, listV, tupleV, intV1, absV1, ofInts, ofBls, two, vIsi, vM, vM0, appendV, extendV, popV, popAtV, vIndex, vDnew, vCall, sRaise, vYes, vRev, getV, startV, wipeV]
      intro f1 d1 h1 f2 d2 t2 h2 f3 d3 t3 h3 f4 d4 t4 h4
      refine ⟨by omega, ?_⟩
      have g4 := vput_same (vh := vput (vput (vput w4 f1 (cloF f1 (mk_1 d1))) f2 (cloF f2 (mk_2 t2 d2))) f3 (cloF f3 (mk_3 t3 d3))) (a := f4) (c := cloF f4 (mk_4 t4 d4))
      have g3 := putO (c := cloF f4 (mk_4 t4 d4)) (vput_same (vh := vput (vput w4 f1 (cloF f1 (mk_1 d1))) f2 (cloF f2 (mk_2 t2 d2))) (a := f3) (c := cloF f3 (mk_3 t3 d3))) h4
      have g2 := putO (c := cloF f4 (mk_4 t4 d4)) (putO (c := cloF f3 (mk_3 t3 d3)) (vput_same (vh := vput w4 f1 (cloF f1 (mk_1 d1))) (a := f2) (c := cloF f2 (mk_2 t2 d2))) h3) h4
      have g1 := putO (c := cloF f4 (mk_4 t4 d4)) (putO (c := cloF f3 (mk_3 t3 d3)) (putO (c := cloF f2 (mk_2 t2 d2)) (vput_same (vh := w4) (a := f1) (c := cloF f1 (mk_1 d1))) h2) h3) h4
      have s5 := (((((SubH.refl w4).put' (c := cloF f1 (mk_1 d1)) h1).put' (c := cloF f2 (mk_2 t2 d2)) h2).put' (c := cloF f3 (mk_3 t3 d3)) h3).put' (c := cloF f4 (mk_4 t4 d4)) h4)
      generalize vput (vput (vput (vput w4 f1 (cloF f1 (mk_1 d1))) f2 (cloF f2 (mk_2 t2 d2))) f3 (cloF f3 (mk_3 t3 d3))) f4 (cloF f4 (mk_4 t4 d4)) = w5 at *
      have ol : okD 9 (.str "BadList") = true := by simp only [okD, PyData.canLay0]; decide +kernel
      refine ForB.ofm [f1, f2, f3, f4] U.ref rfl (fun _ => trivial) (fun _ Γ vh' => SubH w5 vh' ∧ ∃ b d, Γ = [some scr, some (.ref a), b, some (WU W), some u, some pl, d, none, none])
        ⟨.refl _, _, _, rfl⟩ (fun Γ6 w6 ⟨s6, b, d, hΓ⟩ => ?_) fun pre f suf Γ6 w6 hpre ⟨s6, b, d, hΓ⟩ => ?_
      · subst hΓ
        exact ⟨s4'.trans (s5.trans s6), ⟨_, _, _, _, rfl⟩, ns4, (s5.trans s6) _ _ a4⟩
      · subst hΓ
        have b6 := bd.sub (s5.trans s6)
        have hf : f = f1 ∨ f = f2 ∨ f = f3 ∨ f = f4 := by
          have : f ∈ [f1, f2, f3, f4] := by rw [hpre]; simp
          simpa using this
        simp [ltV, leV, gtV, geV, sumV, maxV, minV, allV, anyV, sortV, sNext, sSeq, sNever, sBreak, sDrop, sRet, sRetN, sIf, gN, gNl, gCn, gTp, gSb, sAsg, sPar, vVar, vC, vNil, vCons, vTup, vLst, v2, addV, intsV, ints0V, mulV, vNeg, eqV', neV', inV', isV, VL.isNon, vTest, vChain, vAnd, vOr, vNot, vAndV, vOrV, vNotV, vIf, ixV, vNo, vPart, vSl, sliceV, vLc_eq, vDc_eq, sFor_eq, sWhile_eq, iSq, iRg1, iRg2, iEn, iZp, vCB, lenV, listV, tupleV, intV1, absV1, ofInts, ofBls, two, vIsi, vM, vM0, appendV, extendV, popV, popAtV, vIndex, vDnew, vCall, sRaise, vYes, vRev, getV, startV, wipeV]
        have nx : ∀ w7, SubH w6 w7 → SubH w5 w7 ∧ ∃ b' d', [some scr, some (.ref a), b, some (WU W), some u, some pl, some (.ref f), none, none] = [some scr, some (.ref a), b', some (WU W), some u, some pl, d', none, none] := fun w7 s7 => ⟨s6.trans s7, _, _, rfl⟩
        rcases hf with rfl | rfl | rfl | rfl
        · refine vIs_exc (c := ⟨c1, 1, "BadList", "place"⟩) (by omega) rfl (.head _) (t := 0) (s6 _ _ g1) (okD_up (by omega) ok) ol find_bad (fun K h => h) (fun K Zx h => ?_) fun w7 s7 => by simpa using nx w7 s7
          simp [ltV, leV, gtV, geV, sumV, maxV, minV, allV, anyV, sortV, sNext, sSeq, sNever, sBreak, sDrop, sRet, sRetN, sIf, gN, gNl, gCn, gTp, gSb, sAsg, sPar, vVar, vC, vNil, vCons, vTup, vLst, v2, addV, intsV, ints0V, mulV, vNeg, eqV', neV', inV', isV, VL.isNon, vTest, vChain, vAnd, vOr, vNot, vAndV, vOrV, vNotV, vIf, ixV, vNo, vPart, vSl, sliceV, vLc_eq, vDc_eq, sFor_eq, sWhile_eq, iSq, iRg1, iRg2, iEn, iZp, vCB, lenV, listV, tupleV, intV1, absV1, ofInts, ofBls, two, vIsi, vM, vM0, appendV, extendV, popV, popAtV, vIndex, vDnew, vCall, sRaise, vYes, vRev, getV, startV, wipeV]; exact .inr ⟨u, pl, rfl, b6, h _ (.refl _)⟩
        · refine vIs_exc (c := ⟨c1, 1, "BadList", "place"⟩) (by omega) rfl (.tail _ (.head _)) (s6 _ _ g2) (okD_up (by omega) ok) ol find_bad (fun K h => h) (fun K Zx h => ?_) fun w7 s7 => by simpa using nx w7 s7
          simp [ltV, leV, gtV, geV, sumV, maxV, minV, allV, anyV, sortV, sNext, sSeq, sNever, sBreak, sDrop, sRet, sRetN, sIf, gN, gNl, gCn, gTp, gSb, sAsg, sPar, vVar, vC, vNil, vCons, vTup, vLst, v2, addV, intsV, ints0V, mulV, vNeg, eqV', neV', inV', isV, VL.isNon, vTest, vChain, vAnd, vOr, vNot, vAndV, vOrV, vNotV, vIf, ixV, vNo, vPart, vSl, sliceV, vLc_eq, vDc_eq, sFor_eq, sWhile_eq, iSq, iRg1, iRg2, iEn, iZp, vCB, lenV, listV, tupleV, intV1, absV1, ofInts, ofBls, two, vIsi, vM, vM0, appendV, extendV, popV, popAtV, vIndex, vDnew, vCall, sRaise, vYes, vRev, getV, startV, wipeV]; exact srch_bad b6 (h _ (.refl _))
        · refine vIs_exc (c := ⟨c1, 1, "BadList", "place"⟩) (by omega) rfl (.tail _ (.tail _ (.head _))) (s6 _ _ g3) (okD_up (by omega) ok) ol find_bad (fun K h => h) (fun K Zx h => ?_) fun w7 s7 => by simpa using nx w7 s7
          simp [ltV, leV, gtV, geV, sumV, maxV, minV, allV, anyV, sortV, sNext, sSeq, sNever, sBreak, sDrop, sRet, sRetN, sIf, gN, gNl, gCn, gTp, gSb, sAsg, sPar, vVar, vC, vNil, vCons, vTup, vLst, v2, addV, intsV, ints0V, mulV, vNeg, eqV', neV', inV', isV, VL.isNon, vTest, vChain, vAnd, vOr, vNot, vAndV, vOrV, vNotV, vIf, ixV, vNo, vPart, vSl, sliceV, vLc_eq, vDc_eq, sFor_eq, sWhile_eq, iSq, iRg1, iRg2, iEn, iZp, vCB, lenV, listV, tupleV, intV1, absV1, ofInts, ofBls, two, vIsi, vM, vM0, appendV, extendV, popV, popAtV, vIndex, vDnew, vCall, sRaise, vYes, vRev, getV, startV, wipeV]; exact srch_bad b6 (h _ (.refl _))
        · refine vIs_exc (c := ⟨c1, 1, "BadList", "place"⟩) (by omega) rfl (.tail _ (.tail _ (.tail _ (.head _)))) (s6 _ _ g4) (okD_up (by omega) ok) ol find_bad (fun K h => h) (fun K Zx h => ?_) fun w7 s7 => by simpa using nx w7 s7
          simp [ltV, leV, gtV, geV, sumV, maxV, minV, allV, anyV, sortV, sNext, sSeq, sNever, sBreak, sDrop, sRet, sRetN, sIf, gN, gNl, gCn, gTp, gSb, sAsg, sPar, vVar, vC, vNil, vCons, vTup, vLst, v2, addV, intsV, ints0V, mulV, vNeg, eqV', neV', inV', isV, VL.isNon, vTest, vChain, vAnd, vOr, vNot, vAndV, vOrV, vNotV, vIf, ixV, vNo, vPart, vSl, sliceV, vLc_eq, vDc_eq, sFor_eq, sWhile_eq, iSq, iRg1, iRg2, iEn, iZp, vCB, lenV, listV, tupleV, intV1, absV1, ofInts, ofBls, two, vIsi, vM, vM0, appendV, extendV, popV, popAtV, vIndex, vDnew, vCall, sRaise, vYes, vRev, getV, startV, wipeV]; exact srch_bad b6 (h _ (.refl _))
    · subst hΓ
      dsimp only
      refine sLater_i ?_
      simp [ltV, leV, gtV, geV, sumV, maxV, minV, allV, anyV, sortV, sNext, sSeq, sNever, sBreak, sDrop, sRet, sRetN, sIf, gN, gNl, gCn, gTp, gSb, sAsg, sPar, vVar, vC, vNil, vCons, vTup, vLst, v2, addV, intsV, ints0V, mulV, vNeg, eqV', neV', inV', isV, VL.isNon, vTest, vChain, vAnd, vOr, vNot, vAndV, vOrV, vNotV, vIf, ixV, vNo, vPart, vSl, sliceV, vLc_eq, vDc_eq, sFor_eq, sWhile_eq, iSq, iRg1, iRg2, iEn, iZp, vCB, lenV, listV, tupleV, intV1, absV1, ofInts, ofBls, two, vIsi, vM, vM0, appendV, extendV, popV, popAtV, vIndex, vDnew, vCall, sRaise, vYes, vRev, getV, startV, wipeV]
      refine ⟨by omega, by omega, sLater_i ?_⟩
      simp [ltV, leV, gtV, geV, sumV, maxV, minV, allV, anyV, sortV, sNext, sSeq, sNever, sBreak, sDrop, sRet, sRetN, sIf, gN, gNl, gCn, gTp, gSb, sAsg, sPar, vVar, vC, vNil, vCons, vTup, vLst, v2, addV, intsV, ints0V, mulV, vNeg, eqV', neV', inV', isV, VL.isNon, vTest, vChain, vAnd, vOr, vNot, vAndV, vOrV, vNotV, vIf, ixV, vNo, vPart, vSl, sliceV, vLc_eq, vDc_eq, sFor_eq, sWhile_eq, iSq, iRg1, iRg2, iEn, iZp, vCB, lenV, listV, tupleV, intV1, absV1, ofInts, ofBls, two, vIsi, vM, vM0, appendV, extendV, popV, popAtV, vIndex, vDnew, vCall, sRaise, vYes, vRev, getV, startV, wipeV]
      refine f_steady (W := three) vw_three ?_
      rw [st_three]
      refine f_steady (W := []) vw_nil ?_
      rw [st_nil]
      refine ⟨by omega, by omega, srch_ok (W := pair3) vw_pair3 st_pair3.1 ?_⟩
      rw [st_pair3.2]
      refine ⟨by omega, by omega, f_steady (W := ring3) vw_ring3 ?_⟩
      rw [st_ring3]
      refine ⟨by omega, sLater_i ?_⟩
      simp [ltV, leV, gtV, geV, sumV, maxV, minV, allV, anyV, sortV, sNext, sSeq, sNever, sBreak, sDrop, sRet, sRetN, sIf, gN, gNl, gCn, gTp, gSb, sAsg, sPar, vVar, vC, vNil, vCons, vTup, vLst, v2, addV, intsV, ints0V, mulV, vNeg, eqV', neV', inV', isV, VL.isNon, vTest, vChain, vAnd, vOr, vNot, vAndV, vOrV, vNotV, vIf, ixV, vNo, vPart, vSl, sliceV, vLc_eq, vDc_eq, sFor_eq, sWhile_eq, iSq, iRg1, iRg2, iEn, iZp, vCB, lenV, listV, tupleV, intV1, absV1, ofInts, ofBls, two, vIsi, vM, vM0, appendV, extendV, popV, popAtV, vIndex, vDnew, vCall, sRaise, vYes, vRev, getV, startV, wipeV]
      refine ⟨by omega, by omega, f_like (by rfl) (by rfl) ?_⟩
      exact RD.of r s3
end K75

-- part C1
set_option Elab.async false
set_option linter.all false
set_option maxRecDepth 100000
set_option maxHeartbeats 4000000
namespace K75
open PySem PySem.Spec PyProof.Rows L2 VL LamX
theorem all {l : PySem.W.OpenLaw} {w : World} {K : PySem.W.Frag} {mg : Str → Option Value} {fa : Addr} {h : Heap}
    {f_is_number : Addr} {fd_is_number : FuncData} (n_is_number : L2.Fun K "is_number" "is_number" s_is_number f_is_number fd_is_number) (m_is_number : mg "is_number" = some (.ref f_is_number))
    {f_is_among : Addr} {fd_is_among : FuncData} (n_is_among : L2.Fun K "is_among" "is_among" s_is_among f_is_among fd_is_among) (m_is_among : mg "is_among" = some (.ref f_is_among))
    {f_is_tuple_of : Addr} {fd_is_tuple_of : FuncData} (n_is_tuple_of : L2.Fun K "is_tuple_of" "is_tuple_of" s_is_tuple_of f_is_tuple_of fd_is_tuple_of) (m_is_tuple_of : mg "is_tuple_of" = some (.ref f_is_tuple_of))
    {f_is_list_of : Addr} {fd_is_list_of : FuncData} (n_is_list_of : L2.Fun K "is_list_of" "is_list_of" s_is_list_of f_is_list_of fd_is_list_of) (m_is_list_of : mg "is_list_of" = some (.ref f_is_list_of))
    {f_need_wishes : Addr} {fd_need_wishes : FuncData} (n_need_wishes : L2.Fun K "need_wishes" "need_wishes" s_need_wishes f_need_wishes fd_need_wishes) (m_need_wishes : mg "need_wishes" = some (.ref f_need_wishes))
    {f_rank_by : Addr} {fd_rank_by : FuncData} (n_rank_by : L2.Fun K "rank_by" "rank_by" s_rank_by f_rank_by fd_rank_by) (m_rank_by : mg "rank_by" = some (.ref f_rank_by))
    {f_mutual_pairs : Addr} {fd_mutual_pairs : FuncData} (n_mutual_pairs : L2.Fun K "mutual_pairs" "mutual_pairs" s_mutual_pairs f_mutual_pairs fd_mutual_pairs) (m_mutual_pairs : mg "mutual_pairs" = some (.ref f_mutual_pairs))
    {f_would_break : Addr} {fd_would_break : FuncData} (n_would_break : L2.Fun K "would_break" "would_break" s_would_break f_would_break fd_would_break) (m_would_break : mg "would_break" = some (.ref f_would_break))
    {f_blocks_by : Addr} {fd_blocks_by : FuncData} (n_blocks_by : L2.Fun K "blocks_by" "blocks_by" s_blocks_by f_blocks_by fd_blocks_by) (m_blocks_by : mg "blocks_by" = some (.ref f_blocks_by))
    {f_ranks_by : Addr} {fd_ranks_by : FuncData} (n_ranks_by : L2.Fun K "ranks_by" "ranks_by" s_ranks_by f_ranks_by fd_ranks_by) (m_ranks_by : mg "ranks_by" = some (.ref f_ranks_by))
    {f_all_mates_by : Addr} {fd_all_mates_by : FuncData} (n_all_mates_by : L2.Fun K "all_mates_by" "all_mates_by" s_all_mates_by f_all_mates_by fd_all_mates_by) (m_all_mates_by : mg "all_mates_by" = some (.ref f_all_mates_by))
    {f_all_steady_by : Addr} {fd_all_steady_by : FuncData} (n_all_steady_by : L2.Fun K "all_steady_by" "all_steady_by" s_all_steady_by f_all_steady_by fd_all_steady_by) (m_all_steady_by : mg "all_steady_by" = some (.ref f_all_steady_by))
    {f_all_steady : Addr} {fd_all_steady : FuncData} (n_all_steady : L2.Fun K "all_steady" "all_steady" s_all_steady f_all_steady fd_all_steady) (m_all_steady : mg "all_steady" = some (.ref f_all_steady))
    {f_need_some_steady : Addr} {fd_need_some_steady : FuncData} (n_need_some_steady : L2.Fun K "need_some_steady" "need_some_steady" s_need_some_steady f_need_some_steady fd_need_some_steady) (m_need_some_steady : mg "need_some_steady" = some (.ref f_need_some_steady))
    {f_always_alone : Addr} {fd_always_alone : FuncData} (n_always_alone : L2.Fun K "always_alone" "always_alone" s_always_alone f_always_alone fd_always_alone) (m_always_alone : mg "always_alone" = some (.ref f_always_alone))
    {f_cheapest_steady : Addr} {fd_cheapest_steady : FuncData} {ca_cheapest_steady P_cheapest_steady : Addr} (n_cheapest_steady : FunC K "cheapest_steady" s_cheapest_steady f_cheapest_steady fd_cheapest_steady ca_cheapest_steady) (m_cheapest_steady : mg "cheapest_steady" = some (.ref f_cheapest_steady))
    {f_kindest_steady : Addr} {fd_kindest_steady : FuncData} {ca_kindest_steady P_kindest_steady : Addr} (n_kindest_steady : FunC K "kindest_steady" s_kindest_steady f_kindest_steady fd_kindest_steady ca_kindest_steady) (m_kindest_steady : mg "kindest_steady" = some (.ref f_kindest_steady))
    {f__law_tape : Addr} {fd__law_tape : FuncData} (n__law_tape : L2.Fun K "_law_tape" "_law_tape" s__law_tape f__law_tape fd__law_tape) (m__law_tape : mg "_law_tape" = some (.ref f__law_tape))
    {f__law_take : Addr} {fd__law_take : FuncData} (n__law_take : L2.Fun K "_law_take" "_law_take" s__law_take f__law_take fd__law_take) (m__law_take : mg "_law_take" = some (.ref f__law_take))
    {f__law_like : Addr} {fd__law_like : FuncData} (n__law_like : L2.Fun K "_law_like" "_law_like" s__law_like f__law_like fd__law_like) (m__law_like : mg "_law_like" = some (.ref f__law_like))
    {f__law_is : Addr} {fd__law_is : FuncData} (n__law_is : L2.Fun K "_law_is" "_law_is" s__law_is f__law_is fd__law_is) (m__law_is : mg "_law_is" = some (.ref f__law_is))
    {f__law_told : Addr} {fd__law_told : FuncData} (n__law_told : L2.Fun K "_law_told" "_law_told" s__law_told f__law_told fd__law_told) (m__law_told : mg "_law_told" = some (.ref f__law_told))
    {f__law_mixed : Addr} {fd__law_mixed : FuncData} (n__law_mixed : L2.Fun K "_law_mixed" "_law_mixed" s__law_mixed f__law_mixed fd__law_mixed) (m__law_mixed : mg "_law_mixed" = some (.ref f__law_mixed))
    {f__law_wishes : Addr} {fd__law_wishes : FuncData} (n__law_wishes : L2.Fun K "_law_wishes" "_law_wishes" s__law_wishes f__law_wishes fd__law_wishes) (m__law_wishes : mg "_law_wishes" = some (.ref f__law_wishes))
    {f__law_rank : Addr} {fd__law_rank : FuncData} (n__law_rank : L2.Fun K "_law_rank" "_law_rank" s__law_rank f__law_rank fd__law_rank) (m__law_rank : mg "_law_rank" = some (.ref f__law_rank))
    {f__law_all_mates : Addr} {fd__law_all_mates : FuncData} (n__law_all_mates : L2.Fun K "_law_all_mates" "_law_all_mates" s__law_all_mates f__law_all_mates fd__law_all_mates) (m__law_all_mates : mg "_law_all_mates" = some (.ref f__law_all_mates))
    {f__law_blocks : Addr} {fd__law_blocks : FuncData} (n__law_blocks : L2.Fun K "_law_blocks" "_law_blocks" s__law_blocks f__law_blocks fd__law_blocks) (m__law_blocks : mg "_law_blocks" = some (.ref f__law_blocks))
    {f__law_steady : Addr} {fd__law_steady : FuncData} (n__law_steady : L2.Fun K "_law_steady" "_law_steady" s__law_steady f__law_steady fd__law_steady) (m__law_steady : mg "_law_steady" = some (.ref f__law_steady))
    {f__law_bent_wishes : Addr} {fd__law_bent_wishes : FuncData} (n__law_bent_wishes : L2.Fun K "_law_bent_wishes" "_law_bent_wishes" s__law_bent_wishes f__law_bent_wishes fd__law_bent_wishes) (m__law_bent_wishes : mg "_law_bent_wishes" = some (.ref f__law_bent_wishes))
    {f__law_right : Addr} {fd__law_right : FuncData} {ca__law_right P__law_right : Addr} (n__law_right : FunC K "_law_right" s__law_right f__law_right fd__law_right ca__law_right) (m__law_right : mg "_law_right" = some (.ref f__law_right))
    {f__law_many : Addr} {fd__law_many : FuncData} (n__law_many : L2.Fun K "_law_many" "_law_many" s__law_many f__law_many fd__law_many) (m__law_many : mg "_law_many" = some (.ref f__law_many))
    {f_law : Addr} {fd_law : FuncData} {ca_law P_law : Addr} (n_law : FunC K "law" s_law f_law fd_law ca_law) (m_law : mg "law" = some (.ref f_law))
    {c_BadList : Addr}
    {c_NoSuch : Addr}
    (o_BadList : XOk l.prog w K mg "BadList" c_BadList "place")
    (o_NoSuch : XOk l.prog w K mg "NoSuch" c_NoSuch "value")
    (k_BadList : CaOk K mg "BadList" c_BadList "place")
    (k_NoSuch : CaOk K mg "NoSuch" c_NoSuch "value")
    (hexm : ∀ c ∈ tcs c_BadList c_NoSuch, ∀ c' ∈ tcs c_BadList c_NoSuch, PySem.W.exmOne K (.ref c.C) (.ref c'.C) = some (decide (c'.C = c.C)))
    (ne_BadList_NoSuch : c_BadList ≠ c_NoSuch)
    (b_abs : mg "abs" = none)
    (b_all : mg "all" = none)
    (b_bool : mg "bool" = none)
    (b_enumerate : mg "enumerate" = none)
    (b_int : mg "int" = none)
    (b_isinstance : mg "isinstance" = none)
    (b_len : mg "len" = none)
    (b_list : mg "list" = none)
    (b_max : mg "max" = none)
    (b_min : mg "min" = none)
    (b_range : mg "range" = none)
    (b_sorted : mg "sorted" = none)
    (b_str : mg "str" = none)
    (b_sum : mg "sum" = none)
    (b_tuple : mg "tuple" = none)
    (b_zip : mg "zip" = none)
    {t_MOST_PEOPLE : Tok} (c_MOST_PEOPLE : True ∧ mg "MOST_PEOPLE" = some (.int 8 t_MOST_PEOPLE))
    (hnd : ([P_cheapest_steady, P_kindest_steady, P__law_right, P_law] : List Addr).Nodup)
    (t_cheapest_steady : PySem.W.CodeHd h ca_cheapest_steady P_cheapest_steady ∧ h.get? P_cheapest_steady = some { cls := .none, data := .fields #[] }) (nt_cheapest_steady : K.lookup P_cheapest_steady = none)
    (t_kindest_steady : PySem.W.CodeHd h ca_kindest_steady P_kindest_steady ∧ h.get? P_kindest_steady = some { cls := .none, data := .fields #[] }) (nt_kindest_steady : K.lookup P_kindest_steady = none)
    (t__law_right : PySem.W.CodeHd h ca__law_right P__law_right ∧ h.get? P__law_right = some { cls := .none, data := .fields #[] }) (nt__law_right : K.lookup P__law_right = none)
    (t_law : PySem.W.CodeHd h ca_law P_law ∧ h.get? P_law = some { cls := .none, data := .fields #[] }) (nt_law : K.lookup P_law = none)
    (hfa : f_law = fa) :
    LawAtS l w K (L2.CX l.prog w) 11 63 "script" mg fa h := by
  subst hfa
  refine ⟨fd_law, [(ca_cheapest_steady, P_cheapest_steady), (ca_kindest_steady, P_kindest_steady), (ca__law_right, P__law_right), (ca_law, P_law)], spV K ⟨[(P_cheapest_steady, ("cheapest_steady.<locals>." : Str) ++ "<lambda>"), (P_kindest_steady, ("kindest_steady.<locals>." : Str) ++ "<lambda>"), (P__law_right, ("_law_right.<locals>." : Str) ++ "<lambda>"), (P_law, ("law.<locals>." : Str) ++ "<lambda>")], none⟩ F_law 1, ?_, ?_, ?_, ?_, ?_, fun base KB GB TB => ?_⟩
  · intro p hp
    simp only [List.mem_cons, List.not_mem_nil, or_false] at hp
    rcases hp with rfl | rfl | rfl | rfl
    · exact t_cheapest_steady.2
    · exact t_kindest_steady.2
    · exact t__law_right.2
    · exact t_law.2
  · intro p hp
    simp only [List.mem_cons, List.not_mem_nil, or_false] at hp
    rcases hp with rfl | rfl | rfl | rfl
    · exact nt_cheapest_steady
    · exact nt_kindest_steady
    · exact nt__law_right
    · exact nt_law
  · intro p hp
    simp only [List.mem_cons, List.not_mem_nil, or_false] at hp
    rcases hp with rfl | rfl | rfl | rfl
    · exact t_cheapest_steady.1
    · exact t_kindest_steady.1
    · exact t__law_right.1
    · exact t_law.1
  · intro s u
    obtain ⟨oc, od, kV, doc, pm, an, cdv, ct, osl, rfl, lk, hcd⟩ := (n_law.fn).ex
    exact .of_eq rfl
  · intro H a ns hl _ hT hS
    refine law_sp (fun x vh R Z sc r => ⟨x, ns, rfl, sc, hl, r⟩) (fun p hp => ?_) hS
    simp only [List.mem_cons, List.not_mem_nil, or_false] at hp
    rcases hp with rfl | rfl | rfl | rfl
    · exact hT (ca_cheapest_steady, P_cheapest_steady) (.head _)
    · exact hT (ca_kindest_steady, P_kindest_steady) (.tail _ (.head _))
    · exact hT (ca__law_right, P__law_right) (.tail _ (.tail _ (.head _)))
    · exact hT (ca_law, P_law) (.tail _ (.tail _ (.tail _ (.head _))))
  have o_is_number : DOk l.prog w K mg base (⟨[(P_cheapest_steady, ("cheapest_steady.<locals>." : Str) ++ "<lambda>"), (P_kindest_steady, ("kindest_steady.<locals>." : Str) ++ "<lambda>"), (P__law_right, ("_law_right.<locals>." : Str) ++ "<lambda>"), (P_law, ("law.<locals>." : Str) ++ "<lambda>")], none⟩ : Pk) 1 "is_number" f_is_number fd_is_number ["thing"] (F_is_number none) := dok_of n_is_number m_is_number sc_is_number (fun _ _ _ _ _ _ us hl => match us, hl with | [_], _ => rfl) (fun _ _ _ _ _ _ us hl => match us, hl with | [_], _ => rfl) fun cdv A outer s H E hr => ⟨_, v_is_number b_bool b_int b_isinstance cdv f_is_number A outer s H E hr, b_is_number⟩
  have o_is_among : DOk l.prog w K mg base (⟨[(P_cheapest_steady, ("cheapest_steady.<locals>." : Str) ++ "<lambda>"), (P_kindest_steady, ("kindest_steady.<locals>." : Str) ++ "<lambda>"), (P__law_right, ("_law_right.<locals>." : Str) ++ "<lambda>"), (P_law, ("law.<locals>." : Str) ++ "<lambda>")], none⟩ : Pk) 2 "is_among" f_is_among fd_is_among ["thing", "least", "most"] (F_is_among none) := dok_of n_is_among m_is_among sc_is_among (fun _ _ _ _ _ _ us hl => match us, hl with | [_, _, _], _ => rfl) (fun _ _ _ _ _ _ us hl => match us, hl with | [_, _, _], _ => rfl) fun cdv A outer s H E hr => ⟨_, v_is_among o_is_number cdv f_is_among A outer s H E hr, b_is_among⟩
  have o_is_tuple_of : DOk l.prog w K mg base (⟨[(P_cheapest_steady, ("cheapest_steady.<locals>." : Str) ++ "<lambda>"), (P_kindest_steady, ("kindest_steady.<locals>." : Str) ++ "<lambda>"), (P__law_right, ("_law_right.<locals>." : Str) ++ "<lambda>"), (P_law, ("law.<locals>." : Str) ++ "<lambda>")], none⟩ : Pk) 1 "is_tuple_of" f_is_tuple_of fd_is_tuple_of ["thing", "least", "most"] (F_is_tuple_of none) := dok_of n_is_tuple_of m_is_tuple_of sc_is_tuple_of (fun _ _ _ _ _ _ us hl => match us, hl with | [_, _, _], _ => rfl) (fun _ _ _ _ _ _ us hl => match us, hl with | [_, _, _], _ => rfl) fun cdv A outer s H E hr => ⟨_, v_is_tuple_of b_isinstance b_len b_tuple cdv f_is_tuple_of A outer s H E hr, b_is_tuple_of⟩
  have o_is_list_of : DOk l.prog w K mg base (⟨[(P_cheapest_steady, ("cheapest_steady.<locals>." : Str) ++ "<lambda>"), (P_kindest_steady, ("kindest_steady.<locals>." : Str) ++ "<lambda>"), (P__law_right, ("_law_right.<locals>." : Str) ++ "<lambda>"), (P_law, ("law.<locals>." : Str) ++ "<lambda>")], none⟩ : Pk) 3 "is_list_of" f_is_list_of fd_is_list_of ["thing", "person", "many"] (F_is_list_of none) := dok_of n_is_list_of m_is_list_of sc_is_list_of (fun _ _ _ _ _ _ us hl => match us, hl with | [_, _, _], _ => rfl) (fun _ _ _ _ _ _ us hl => match us, hl with | [_, _, _], _ => rfl) fun cdv A outer s H E hr => ⟨_, v_is_list_of o_is_among o_is_tuple_of b_all b_len cdv f_is_list_of A outer s H E hr, b_is_list_of⟩
  have o_need_wishes : DOk l.prog w K mg base (⟨[(P_cheapest_steady, ("cheapest_steady.<locals>." : Str) ++ "<lambda>"), (P_kindest_steady, ("kindest_steady.<locals>." : Str) ++ "<lambda>"), (P__law_right, ("_law_right.<locals>." : Str) ++ "<lambda>"), (P_law, ("law.<locals>." : Str) ++ "<lambda>")], none⟩ : Pk) 4 "need_wishes" f_need_wishes fd_need_wishes ["wishes"] (F_need_wishes none c_BadList) := dok_of n_need_wishes m_need_wishes sc_need_wishes (fun _ _ _ _ _ _ us hl => match us, hl with | [_], _ => rfl) (fun _ _ _ _ _ _ us hl => match us, hl with | [_], _ => rfl) fun cdv A outer s H E hr => ⟨_, v_need_wishes o_is_list_of o_is_tuple_of o_BadList b_all b_enumerate b_len c_MOST_PEOPLE cdv f_need_wishes A outer s H E hr, b_need_wishes⟩
  have o_rank_by : DOk l.prog w K mg base (⟨[(P_cheapest_steady, ("cheapest_steady.<locals>." : Str) ++ "<lambda>"), (P_kindest_steady, ("kindest_steady.<locals>." : Str) ++ "<lambda>"), (P__law_right, ("_law_right.<locals>." : Str) ++ "<lambda>"), (P_law, ("law.<locals>." : Str) ++ "<lambda>")], none⟩ : Pk) 1 "rank_by" f_rank_by fd_rank_by ["wishes", "person", "other"] F_rank_by := dok_of n_rank_by m_rank_by sc_rank_by (fun _ _ _ _ _ _ us hl => match us, hl with | [_, _, _], _ => rfl) (fun _ _ _ _ _ _ us hl => match us, hl with | [_, _, _], _ => rfl) fun cdv A outer s H E hr => ⟨_, v_rank_by b_len cdv f_rank_by A outer s H E hr, b_rank_by⟩
  have o_mutual_pairs : DOk l.prog w K mg base (⟨[(P_cheapest_steady, ("cheapest_steady.<locals>." : Str) ++ "<lambda>"), (P_kindest_steady, ("kindest_steady.<locals>." : Str) ++ "<lambda>"), (P__law_right, ("_law_right.<locals>." : Str) ++ "<lambda>"), (P_law, ("law.<locals>." : Str) ++ "<lambda>")], none⟩ : Pk) 1 "mutual_pairs" f_mutual_pairs fd_mutual_pairs ["wishes"] F_mutual_pairs := dok_of n_mutual_pairs m_mutual_pairs sc_mutual_pairs (fun _ _ _ _ _ _ us hl => match us, hl with | [_], _ => rfl) (fun _ _ _ _ _ _ us hl => match us, hl with | [_], _ => rfl) fun cdv A outer s H E hr => ⟨_, v_mutual_pairs b_enumerate b_sorted cdv f_mutual_pairs A outer s H E hr, b_mutual_pairs⟩
  have o_would_break : DOk l.prog w K mg base (⟨[(P_cheapest_steady, ("cheapest_steady.<locals>." : Str) ++ "<lambda>"), (P_kindest_steady, ("kindest_steady.<locals>." : Str) ++ "<lambda>"), (P__law_right, ("_law_right.<locals>." : Str) ++ "<lambda>"), (P_law, ("law.<locals>." : Str) ++ "<lambda>")], none⟩ : Pk) 2 "would_break" f_would_break fd_would_break ["wishes", "mates", "one", "other"] F_would_break := dok_of n_would_break m_would_break sc_would_break (fun _ _ _ _ _ _ us hl => match us, hl with | [_, _, _, _], _ => rfl) (fun _ _ _ _ _ _ us hl => match us, hl with | [_, _, _, _], _ => rfl) fun cdv A outer s H E hr => ⟨_, v_would_break o_rank_by cdv f_would_break A outer s H E hr, b_would_break⟩
  have o_blocks_by : DOk l.prog w K mg base (⟨[(P_cheapest_steady, ("cheapest_steady.<locals>." : Str) ++ "<lambda>"), (P_kindest_steady, ("kindest_steady.<locals>." : Str) ++ "<lambda>"), (P__law_right, ("_law_right.<locals>." : Str) ++ "<lambda>"), (P_law, ("law.<locals>." : Str) ++ "<lambda>")], none⟩ : Pk) 3 "blocks_by" f_blocks_by fd_blocks_by ["wishes", "mates"] F_blocks_by := dok_of n_blocks_by m_blocks_by sc_blocks_by (fun _ _ _ _ _ _ us hl => match us, hl with | [_, _], _ => rfl) (fun _ _ _ _ _ _ us hl => match us, hl with | [_, _], _ => rfl) fun cdv A outer s H E hr => ⟨_, v_blocks_by o_mutual_pairs o_would_break cdv f_blocks_by A outer s H E hr, b_blocks_by⟩
  have o_ranks_by : DOk l.prog w K mg base (⟨[(P_cheapest_steady, ("cheapest_steady.<locals>." : Str) ++ "<lambda>"), (P_kindest_steady, ("kindest_steady.<locals>." : Str) ++ "<lambda>"), (P__law_right, ("_law_right.<locals>." : Str) ++ "<lambda>"), (P_law, ("law.<locals>." : Str) ++ "<lambda>")], none⟩ : Pk) 2 "ranks_by" f_ranks_by fd_ranks_by ["wishes", "mates"] F_ranks_by := dok_of n_ranks_by m_ranks_by sc_ranks_by (fun _ _ _ _ _ _ us hl => match us, hl with | [_, _], _ => rfl) (fun _ _ _ _ _ _ us hl => match us, hl with | [_, _], _ => rfl) fun cdv A outer s H E hr => ⟨_, v_ranks_by o_rank_by b_enumerate cdv f_ranks_by A outer s H E hr, b_ranks_by⟩
  have o_all_mates_by : DOk l.prog w K mg base (⟨[(P_cheapest_steady, ("cheapest_steady.<locals>." : Str) ++ "<lambda>"), (P_kindest_steady, ("kindest_steady.<locals>." : Str) ++ "<lambda>"), (P__law_right, ("_law_right.<locals>." : Str) ++ "<lambda>"), (P_law, ("law.<locals>." : Str) ++ "<lambda>")], none⟩ : Pk) 1 "all_mates_by" f_all_mates_by fd_all_mates_by ["wishes"] F_all_mates_by := dok_of n_all_mates_by m_all_mates_by sc_all_mates_by (fun _ _ _ _ _ _ us hl => match us, hl with | [_], _ => rfl) (fun _ _ _ _ _ _ us hl => match us, hl with | [_], _ => rfl) fun cdv A outer s H E hr => ⟨_, v_all_mates_by b_len b_sorted cdv f_all_mates_by A outer s H E hr, b_all_mates_by⟩
  have o_all_steady_by : DOk l.prog w K mg base (⟨[(P_cheapest_steady, ("cheapest_steady.<locals>." : Str) ++ "<lambda>"), (P_kindest_steady, ("kindest_steady.<locals>." : Str) ++ "<lambda>"), (P__law_right, ("_law_right.<locals>." : Str) ++ "<lambda>"), (P_law, ("law.<locals>." : Str) ++ "<lambda>")], none⟩ : Pk) 4 "all_steady_by" f_all_steady_by fd_all_steady_by ["wishes"] F_all_steady_by := dok_of n_all_steady_by m_all_steady_by sc_all_steady_by (fun _ _ _ _ _ _ us hl => match us, hl with | [_], _ => rfl) (fun _ _ _ _ _ _ us hl => match us, hl with | [_], _ => rfl) fun cdv A outer s H E hr => ⟨_, v_all_steady_by o_all_mates_by o_blocks_by cdv f_all_steady_by A outer s H E hr, b_all_steady_by⟩
  have o_all_steady : DOk l.prog w K mg base (⟨[(P_cheapest_steady, ("cheapest_steady.<locals>." : Str) ++ "<lambda>"), (P_kindest_steady, ("kindest_steady.<locals>." : Str) ++ "<lambda>"), (P__law_right, ("_law_right.<locals>." : Str) ++ "<lambda>"), (P_law, ("law.<locals>." : Str) ++ "<lambda>")], none⟩ : Pk) 5 "all_steady" f_all_steady fd_all_steady ["wishes"] (F_all_steady none c_BadList) := dok_of n_all_steady m_all_steady sc_all_steady (fun _ _ _ _ _ _ us hl => match us, hl with | [_], _ => rfl) (fun _ _ _ _ _ _ us hl => match us, hl with | [_], _ => rfl) fun cdv A outer s H E hr => ⟨_, v_all_steady o_all_steady_by o_need_wishes b_tuple cdv f_all_steady A outer s H E hr, b_all_steady⟩
  have o_need_some_steady : DOk l.prog w K mg base (⟨[(P_cheapest_steady, ("cheapest_steady.<locals>." : Str) ++ "<lambda>"), (P_kindest_steady, ("kindest_steady.<locals>." : Str) ++ "<lambda>"), (P__law_right, ("_law_right.<locals>." : Str) ++ "<lambda>"), (P_law, ("law.<locals>." : Str) ++ "<lambda>")], none⟩ : Pk) 5 "need_some_steady" f_need_some_steady fd_need_some_steady ["wishes"] (F_need_some c_NoSuch) := dok_of n_need_some_steady m_need_some_steady sc_need_some_steady (fun _ _ _ _ _ _ us hl => match us, hl with | [_], _ => rfl) (fun _ _ _ _ _ _ us hl => match us, hl with | [_], _ => rfl) fun cdv A outer s H E hr => ⟨_, v_need_some_steady o_all_steady_by o_NoSuch cdv f_need_some_steady A outer s H E hr, b_need_some⟩
  have o_always_alone : DOk l.prog w K mg base (⟨[(P_cheapest_steady, ("cheapest_steady.<locals>." : Str) ++ "<lambda>"), (P_kindest_steady, ("kindest_steady.<locals>." : Str) ++ "<lambda>"), (P__law_right, ("_law_right.<locals>." : Str) ++ "<lambda>"), (P_law, ("law.<locals>." : Str) ++ "<lambda>")], none⟩ : Pk) 6 "always_alone" f_always_alone fd_always_alone ["wishes"] (F_always_alone none c_BadList c_NoSuch) := dok_of n_always_alone m_always_alone sc_always_alone (fun _ _ _ _ _ _ us hl => match us, hl with | [_], _ => rfl) (fun _ _ _ _ _ _ us hl => match us, hl with | [_], _ => rfl) fun cdv A outer s H E hr => ⟨_, v_always_alone o_need_some_steady o_need_wishes b_enumerate b_tuple cdv f_always_alone A outer s H E hr, b_always_alone⟩
  have o_cheapest_steady : DOk l.prog w K mg base (⟨[(P_cheapest_steady, ("cheapest_steady.<locals>." : Str) ++ "<lambda>"), (P_kindest_steady, ("kindest_steady.<locals>." : Str) ++ "<lambda>"), (P__law_right, ("_law_right.<locals>." : Str) ++ "<lambda>"), (P_law, ("law.<locals>." : Str) ++ "<lambda>")], none⟩ : Pk) 6 "cheapest_steady" f_cheapest_steady fd_cheapest_steady ["wishes"] (F_cheapest none c_BadList c_NoSuch) := dok_ofC n_cheapest_steady m_cheapest_steady sc_cheapest_steady (fun _ _ _ _ _ _ us hl => match us, hl with | [_], _ => rfl) (fun _ _ _ _ _ _ us hl => match us, hl with | [_], _ => rfl) fun A outer s H E hr => by
    obtain ⟨_, hv⟩ := v_cheapest_steady o_need_some_steady o_need_wishes o_ranks_by b_min b_sum (TB (ca_cheapest_steady, P_cheapest_steady) (.head _)) (.head _) (hU_of hnd (.head _)) (.ref ca_cheapest_steady) rfl f_cheapest_steady A outer s H E hr
    exact ⟨_, hv, b_cheapest⟩
  have o_kindest_steady : DOk l.prog w K mg base (⟨[(P_cheapest_steady, ("cheapest_steady.<locals>." : Str) ++ "<lambda>"), (P_kindest_steady, ("kindest_steady.<locals>." : Str) ++ "<lambda>"), (P__law_right, ("_law_right.<locals>." : Str) ++ "<lambda>"), (P_law, ("law.<locals>." : Str) ++ "<lambda>")], none⟩ : Pk) 6 "kindest_steady" f_kindest_steady fd_kindest_steady ["wishes"] (F_kindest none c_BadList c_NoSuch) := dok_ofC n_kindest_steady m_kindest_steady sc_kindest_steady (fun _ _ _ _ _ _ us hl => match us, hl with | [_], _ => rfl) (fun _ _ _ _ _ _ us hl => match us, hl with | [_], _ => rfl) fun A outer s H E hr => by
    obtain ⟨_, hv⟩ := v_kindest_steady o_need_some_steady o_need_wishes o_ranks_by b_max b_min (TB (ca_kindest_steady, P_kindest_steady) (.tail _ (.head _))) (.tail _ (.head _)) (hU_of hnd (.tail _ (.head _))) (.ref ca_kindest_steady) rfl f_kindest_steady A outer s H E hr
    exact ⟨_, hv, b_kindest⟩
  have o__law_tape : DOk l.prog w K mg base (⟨[(P_cheapest_steady, ("cheapest_steady.<locals>." : Str) ++ "<lambda>"), (P_kindest_steady, ("kindest_steady.<locals>." : Str) ++ "<lambda>"), (P__law_right, ("_law_right.<locals>." : Str) ++ "<lambda>"), (P_law, ("law.<locals>." : Str) ++ "<lambda>")], none⟩ : Pk) 1 "_law_tape" f__law_tape fd__law_tape ["script", "many", "salt"] F_tape := dok_of n__law_tape m__law_tape sc__law_tape (fun _ _ _ _ _ _ us hl => match us, hl with | [_, _, _], _ => rfl) (fun _ _ _ _ _ _ us hl => match us, hl with | [_, _, _], _ => rfl) fun cdv A outer s H E hr => ⟨_, v__law_tape b_abs b_int b_len b_range cdv f__law_tape A outer s H E hr, b_tape⟩
  have o__law_take : DOk l.prog w K mg base (⟨[(P_cheapest_steady, ("cheapest_steady.<locals>." : Str) ++ "<lambda>"), (P_kindest_steady, ("kindest_steady.<locals>." : Str) ++ "<lambda>"), (P__law_right, ("_law_right.<locals>." : Str) ++ "<lambda>"), (P_law, ("law.<locals>." : Str) ++ "<lambda>")], none⟩ : Pk) 1 "_law_take" f__law_take fd__law_take ["tape", "limit"] F_take := dok_of n__law_take m__law_take sc__law_take (fun _ _ _ _ _ _ us hl => match us, hl with | [_, _], _ => rfl) (fun _ _ _ _ _ _ us hl => match us, hl with | [_, _], _ => rfl) fun cdv A outer s H E hr => ⟨_, v__law_take  cdv f__law_take A outer s H E hr, b_take⟩
  have ol_no : DOk l.prog w K mg base (⟨[(P_cheapest_steady, ("cheapest_steady.<locals>." : Str) ++ "<lambda>"), (P_kindest_steady, ("kindest_steady.<locals>." : Str) ++ "<lambda>"), (P__law_right, ("_law_right.<locals>." : Str) ++ "<lambda>"), (P_law, ("law.<locals>." : Str) ++ "<lambda>")], none⟩ : Pk) 0 "_law_like" f__law_like fd__law_like ["told", "due"] FNo := dok_no n__law_like m__law_like (fun _ _ _ _ _ _ us hl => match us, hl with | [_, _], _ => rfl) (fun _ _ _ _ _ _ us hl => match us, hl with | [_, _], _ => rfl)
  have ol_0 : DOk l.prog w K mg base (⟨[(P_cheapest_steady, ("cheapest_steady.<locals>." : Str) ++ "<lambda>"), (P_kindest_steady, ("kindest_steady.<locals>." : Str) ++ "<lambda>"), (P__law_right, ("_law_right.<locals>." : Str) ++ "<lambda>"), (P_law, ("law.<locals>." : Str) ++ "<lambda>")], none⟩ : Pk) 1 "_law_like" f__law_like fd__law_like ["told", "due"] (FLike 0) := dok_of n__law_like m__law_like sc__law_like (fun _ _ _ _ _ _ us hl => match us, hl with | [_, _], _ => rfl) (fun _ _ _ _ _ _ us hl => match us, hl with | [_, _], _ => rfl) fun cdv A outer s H E hr => ⟨_, v__law_like ol_no b_bool b_int b_isinstance b_len b_str b_tuple b_zip cdv f__law_like A outer s H E hr, b_like (fun k e => by omega) (by decide)⟩
  have ol_1 : DOk l.prog w K mg base (⟨[(P_cheapest_steady, ("cheapest_steady.<locals>." : Str) ++ "<lambda>"), (P_kindest_steady, ("kindest_steady.<locals>." : Str) ++ "<lambda>"), (P__law_right, ("_law_right.<locals>." : Str) ++ "<lambda>"), (P_law, ("law.<locals>." : Str) ++ "<lambda>")], none⟩ : Pk) 2 "_law_like" f__law_like fd__law_like ["told", "due"] (FLike 1) := dok_of n__law_like m__law_like sc__law_like (fun _ _ _ _ _ _ us hl => match us, hl with | [_, _], _ => rfl) (fun _ _ _ _ _ _ us hl => match us, hl with | [_, _], _ => rfl) fun cdv A outer s H E hr => ⟨_, v__law_like ol_0 b_bool b_int b_isinstance b_len b_str b_tuple b_zip cdv f__law_like A outer s H E hr, b_like (fun k e => by cases e; rfl) (by decide)⟩
  have ol_2 : DOk l.prog w K mg base (⟨[(P_cheapest_steady, ("cheapest_steady.<locals>." : Str) ++ "<lambda>"), (P_kindest_steady, ("kindest_steady.<locals>." : Str) ++ "<lambda>"), (P__law_right, ("_law_right.<locals>." : Str) ++ "<lambda>"), (P_law, ("law.<locals>." : Str) ++ "<lambda>")], none⟩ : Pk) 3 "_law_like" f__law_like fd__law_like ["told", "due"] (FLike 2) := dok_of n__law_like m__law_like sc__law_like (fun _ _ _ _ _ _ us hl => match us, hl with | [_, _], _ => rfl) (fun _ _ _ _ _ _ us hl => match us, hl with | [_, _], _ => rfl) fun cdv A outer s H E hr => ⟨_, v__law_like ol_1 b_bool b_int b_isinstance b_len b_str b_tuple b_zip cdv f__law_like A outer s H E hr, b_like (fun k e => by cases e; rfl) (by decide)⟩
  have o__law_like : DOk l.prog w K mg base (⟨[(P_cheapest_steady, ("cheapest_steady.<locals>." : Str) ++ "<lambda>"), (P_kindest_steady, ("kindest_steady.<locals>." : Str) ++ "<lambda>"), (P__law_right, ("_law_right.<locals>." : Str) ++ "<lambda>"), (P_law, ("law.<locals>." : Str) ++ "<lambda>")], none⟩ : Pk) 4 "_law_like" f__law_like fd__law_like ["told", "due"] (FLike 3) := dok_of n__law_like m__law_like sc__law_like (fun _ _ _ _ _ _ us hl => match us, hl with | [_, _], _ => rfl) (fun _ _ _ _ _ _ us hl => match us, hl with | [_, _], _ => rfl) fun cdv A outer s H E hr => ⟨_, v__law_like ol_2 b_bool b_int b_isinstance b_len b_str b_tuple b_zip cdv f__law_like A outer s H E hr, b_like (fun k e => by cases e; rfl) (by decide)⟩
  have o__law_is : IsOk l.prog w K mg base (⟨[(P_cheapest_steady, ("cheapest_steady.<locals>." : Str) ++ "<lambda>"), (P_kindest_steady, ("kindest_steady.<locals>." : Str) ++ "<lambda>"), (P__law_right, ("_law_right.<locals>." : Str) ++ "<lambda>"), (P_law, ("law.<locals>." : Str) ++ "<lambda>")], none⟩ : Pk) 7 3 (tcs c_BadList c_NoSuch) := is_of n__law_is sc__law_is m__law_is (n__law_is.binds (fun _ _ _ _ _ _ us hl => match us, hl with | [_, _], _ => rfl)) (by intro c hc; simp only [tcs, List.mem_cons, List.not_mem_nil, or_false] at hc; rcases hc with hc | hc <;> (subst hc; simp only [okD, PyData.canLay0]; decide +kernel)) fun cdv A outer s H E f tv hr th hcl => v__law_is n__law_told m__law_told (n__law_told.binds (fun _ _ _ _ _ _ us hl => match us, hl with | [_], _ => rfl)) o__law_like k_BadList k_NoSuch hexm (by decide) cdv f__law_is A outer s H E hr th hcl
  have o__law_mixed : DOk l.prog w K mg base (⟨[(P_cheapest_steady, ("cheapest_steady.<locals>." : Str) ++ "<lambda>"), (P_kindest_steady, ("kindest_steady.<locals>." : Str) ++ "<lambda>"), (P__law_right, ("_law_right.<locals>." : Str) ++ "<lambda>"), (P_law, ("law.<locals>." : Str) ++ "<lambda>")], none⟩ : Pk) 2 "_law_mixed" f__law_mixed fd__law_mixed ["tape", "some"] F_mixed := dok_of n__law_mixed m__law_mixed sc__law_mixed (fun _ _ _ _ _ _ us hl => match us, hl with | [_, _], _ => rfl) (fun _ _ _ _ _ _ us hl => match us, hl with | [_, _], _ => rfl) fun cdv A outer s H E hr => ⟨_, v__law_mixed o__law_take b_len b_list cdv f__law_mixed A outer s H E hr, b_mixed⟩
  have o__law_wishes : DOk l.prog w K mg base (⟨[(P_cheapest_steady, ("cheapest_steady.<locals>." : Str) ++ "<lambda>"), (P_kindest_steady, ("kindest_steady.<locals>." : Str) ++ "<lambda>"), (P__law_right, ("_law_right.<locals>." : Str) ++ "<lambda>"), (P_law, ("law.<locals>." : Str) ++ "<lambda>")], none⟩ : Pk) 3 "_law_wishes" f__law_wishes fd__law_wishes ["tape", "most", "share"] F_wishes := dok_of n__law_wishes m__law_wishes sc__law_wishes (fun _ _ _ _ _ _ us hl => match us, hl with | [_, _, _], _ => rfl) (fun _ _ _ _ _ _ us hl => match us, hl with | [_, _, _], _ => rfl) fun cdv A outer s H E hr => ⟨_, v__law_wishes o__law_mixed o__law_take b_range b_tuple cdv f__law_wishes A outer s H E hr, b_wishes⟩
  have o__law_rank : DOk l.prog w K mg base (⟨[(P_cheapest_steady, ("cheapest_steady.<locals>." : Str) ++ "<lambda>"), (P_kindest_steady, ("kindest_steady.<locals>." : Str) ++ "<lambda>"), (P__law_right, ("_law_right.<locals>." : Str) ++ "<lambda>"), (P_law, ("law.<locals>." : Str) ++ "<lambda>")], none⟩ : Pk) 1 "_law_rank" f__law_rank fd__law_rank ["wishes", "person", "other"] F_rank_by := dok_of n__law_rank m__law_rank sc__law_rank (fun _ _ _ _ _ _ us hl => match us, hl with | [_, _, _], _ => rfl) (fun _ _ _ _ _ _ us hl => match us, hl with | [_, _, _], _ => rfl) fun cdv A outer s H E hr => ⟨_, v__law_rank b_len cdv f__law_rank A outer s H E hr, b_lrank⟩
  have o__law_all_mates : DOk l.prog w K mg base (⟨[(P_cheapest_steady, ("cheapest_steady.<locals>." : Str) ++ "<lambda>"), (P_kindest_steady, ("kindest_steady.<locals>." : Str) ++ "<lambda>"), (P__law_right, ("_law_right.<locals>." : Str) ++ "<lambda>"), (P_law, ("law.<locals>." : Str) ++ "<lambda>")], none⟩ : Pk) 1 "_law_all_mates" f__law_all_mates fd__law_all_mates ["wishes"] F_all_mates_by := dok_of n__law_all_mates m__law_all_mates sc__law_all_mates (fun _ _ _ _ _ _ us hl => match us, hl with | [_], _ => rfl) (fun _ _ _ _ _ _ us hl => match us, hl with | [_], _ => rfl) fun cdv A outer s H E hr => ⟨_, v__law_all_mates b_len b_range b_sorted cdv f__law_all_mates A outer s H E hr, b_lall⟩
  have o__law_blocks : DOk l.prog w K mg base (⟨[(P_cheapest_steady, ("cheapest_steady.<locals>." : Str) ++ "<lambda>"), (P_kindest_steady, ("kindest_steady.<locals>." : Str) ++ "<lambda>"), (P__law_right, ("_law_right.<locals>." : Str) ++ "<lambda>"), (P_law, ("law.<locals>." : Str) ++ "<lambda>")], none⟩ : Pk) 2 "_law_blocks" f__law_blocks fd__law_blocks ["wishes", "mates"] F_lblocks := dok_of n__law_blocks m__law_blocks sc__law_blocks (fun _ _ _ _ _ _ us hl => match us, hl with | [_, _], _ => rfl) (fun _ _ _ _ _ _ us hl => match us, hl with | [_, _], _ => rfl) fun cdv A outer s H E hr => ⟨_, v__law_blocks o__law_rank b_len b_range cdv f__law_blocks A outer s H E hr, b_lblocks⟩
  have o__law_steady : DOk l.prog w K mg base (⟨[(P_cheapest_steady, ("cheapest_steady.<locals>." : Str) ++ "<lambda>"), (P_kindest_steady, ("kindest_steady.<locals>." : Str) ++ "<lambda>"), (P__law_right, ("_law_right.<locals>." : Str) ++ "<lambda>"), (P_law, ("law.<locals>." : Str) ++ "<lambda>")], none⟩ : Pk) 3 "_law_steady" f__law_steady fd__law_steady ["wishes"] F_all_steady_by := dok_of n__law_steady m__law_steady sc__law_steady (fun _ _ _ _ _ _ us hl => match us, hl with | [_], _ => rfl) (fun _ _ _ _ _ _ us hl => match us, hl with | [_], _ => rfl) fun cdv A outer s H E hr => ⟨_, v__law_steady o__law_all_mates o__law_blocks cdv f__law_steady A outer s H E hr, b_lsteady⟩
  have o__law_bent_wishes : DOk l.prog w K mg base (⟨[(P_cheapest_steady, ("cheapest_steady.<locals>." : Str) ++ "<lambda>"), (P_kindest_steady, ("kindest_steady.<locals>." : Str) ++ "<lambda>"), (P__law_right, ("_law_right.<locals>." : Str) ++ "<lambda>"), (P_law, ("law.<locals>." : Str) ++ "<lambda>")], none⟩ : Pk) 2 "_law_bent_wishes" f__law_bent_wishes fd__law_bent_wishes ["tape", "wishes"] (F_bent none) := dok_of n__law_bent_wishes m__law_bent_wishes sc__law_bent_wishes (fun _ _ _ _ _ _ us hl => match us, hl with | [_, _], _ => rfl) (fun _ _ _ _ _ _ us hl => match us, hl with | [_, _], _ => rfl) fun cdv A outer s H E hr => ⟨_, v__law_bent_wishes o__law_take b_len b_list b_tuple cdv f__law_bent_wishes A outer s H E hr, b_bent⟩
  have o__law_right : DOk l.prog w K mg base (⟨[(P_cheapest_steady, ("cheapest_steady.<locals>." : Str) ++ "<lambda>"), (P_kindest_steady, ("kindest_steady.<locals>." : Str) ++ "<lambda>"), (P__law_right, ("_law_right.<locals>." : Str) ++ "<lambda>"), (P_law, ("law.<locals>." : Str) ++ "<lambda>")], none⟩ : Pk) 10 "_law_right" f__law_right fd__law_right ["wishes"] F_right := dok_ofC n__law_right m__law_right sc__law_right (fun _ _ _ _ _ _ us hl => match us, hl with | [_], _ => rfl) (fun _ _ _ _ _ _ us hl => match us, hl with | [_], _ => rfl) fun A outer s H E hr => by
    obtain ⟨_, _, _, _, _, _, _, hv⟩ := v__law_right o__law_rank o__law_steady o_all_steady o_always_alone o_cheapest_steady o_kindest_steady b_enumerate b_max b_min b_sum b_tuple o__law_is (TB (ca__law_right, P__law_right) (.tail _ (.tail _ (.head _)))) (.tail _ (.tail _ (.head _))) (hU_of hnd (.tail _ (.tail _ (.head _)))) (.ref ca__law_right) rfl f__law_right A outer s H E hr
    exact ⟨_, hv, b_right ne_BadList_NoSuch⟩
  have o__law_many : DOk l.prog w K mg base (⟨[(P_cheapest_steady, ("cheapest_steady.<locals>." : Str) ++ "<lambda>"), (P_kindest_steady, ("kindest_steady.<locals>." : Str) ++ "<lambda>"), (P__law_right, ("_law_right.<locals>." : Str) ++ "<lambda>"), (P_law, ("law.<locals>." : Str) ++ "<lambda>")], none⟩ : Pk) 2 "_law_many" f__law_many fd__law_many ["tape"] F_many := dok_of n__law_many m__law_many sc__law_many (fun _ _ _ _ _ _ us hl => match us, hl with | [_], _ => rfl) (fun _ _ _ _ _ _ us hl => match us, hl with | [_], _ => rfl) fun cdv A outer s H E hr => ⟨_, v__law_many o__law_take b_range b_tuple cdv f__law_many A outer s H E hr, b_many⟩
  have o_law : DOk l.prog w K mg base (⟨[(P_cheapest_steady, ("cheapest_steady.<locals>." : Str) ++ "<lambda>"), (P_kindest_steady, ("kindest_steady.<locals>." : Str) ++ "<lambda>"), (P__law_right, ("_law_right.<locals>." : Str) ++ "<lambda>"), (P_law, ("law.<locals>." : Str) ++ "<lambda>")], none⟩ : Pk) 11 "law" f_law fd_law ["script"] F_law := dok_ofC n_law m_law sc_law (fun _ _ _ _ _ _ us hl => match us, hl with | [_], _ => rfl) (fun _ _ _ _ _ _ us hl => match us, hl with | [_], _ => rfl) fun A outer s H E hr => by
    obtain ⟨_, _, _, _, hv⟩ := v_law o__law_bent_wishes o__law_like o__law_many o__law_right o__law_take o__law_tape o__law_wishes o_all_steady o_always_alone o_cheapest_steady o_kindest_steady b_len b_range o__law_is (TB (ca_law, P_law) (.tail _ (.tail _ (.tail _ (.head _))))) (.tail _ (.tail _ (.tail _ (.head _)))) (hU_of hnd (.tail _ (.tail _ (.tail _ (.head _))))) (.ref ca_law) rfl f_law A outer s H E hr
    exact ⟨_, hv, b_law⟩
  exact o_law.ok
end K75

-- part C2
set_option Elab.async false
set_option linter.all false
set_option maxRecDepth 100000
open PySem PySem.W PyProof.Rows
set_option maxRecDepth 100000 in
set_option maxHeartbeats 0 in
theorem PySem.Challenge.cw_pairedoff_k75_whole_steady_mates_holds : PySem.Challenge.rw_pairedoff_k75_whole_steady_mates.Holds := by
  w_on; o_law; k_head; (case hw => w_witness2)
  k_fill
  refine VL.walk_V (l := PySem.Challenge.rw_pairedoff_k75_whole_steady_mates) (k := 11) rfl rfl ⟨rfl, by decide, by decide⟩ (fun w h Y => by first | exact km_in_of Y | exact kIn_of Y) ?F
  case F =>
    intro w mg fa h Y KX G hmg tabs
    obtain ⟨f_is_number, fd_is_number, n_is_number, m_is_number⟩ : ∃ f fd, L2.Fun _ "is_number" "is_number" K75.s_is_number f fd ∧ mg "is_number" = some (.ref f) := by
      refine' VL.def_mk KX G ?zza ?zzl ?zzc ?zzk; (case zza => k_is); (case zzl => k_is); (case zzc => k_is); (case zzk => k_is)
    obtain ⟨f_is_among, fd_is_among, n_is_among, m_is_among⟩ : ∃ f fd, L2.Fun _ "is_among" "is_among" K75.s_is_among f fd ∧ mg "is_among" = some (.ref f) := by
      refine' VL.def_mk KX G ?zza ?zzl ?zzc ?zzk; (case zza => k_is); (case zzl => k_is); (case zzc => k_is); (case zzk => k_is)
    obtain ⟨f_is_tuple_of, fd_is_tuple_of, n_is_tuple_of, m_is_tuple_of⟩ : ∃ f fd, L2.Fun _ "is_tuple_of" "is_tuple_of" K75.s_is_tuple_of f fd ∧ mg "is_tuple_of" = some (.ref f) := by
      refine' VL.def_mk KX G ?zza ?zzl ?zzc ?zzk; (case zza => k_is); (case zzl => k_is); (case zzc => k_is); (case zzk => k_is)
    obtain ⟨f_is_list_of, fd_is_list_of, n_is_list_of, m_is_list_of⟩ : ∃ f fd, L2.Fun _ "is_list_of" "is_list_of" K75.s_is_list_of f fd ∧ mg "is_list_of" = some (.ref f) := by
      refine' VL.def_mk KX G ?zza ?zzl ?zzc ?zzk; (case zza => k_is); (case zzl => k_is); (case zzc => k_is); (case zzk => k_is)
    obtain ⟨f_need_wishes, fd_need_wishes, n_need_wishes, m_need_wishes⟩ : ∃ f fd, L2.Fun _ "need_wishes" "need_wishes" K75.s_need_wishes f fd ∧ mg "need_wishes" = some (.ref f) := by
      refine' VL.def_mk KX G ?zza ?zzl ?zzc ?zzk; (case zza => k_is); (case zzl => k_is); (case zzc => k_is); (case zzk => k_is)
    obtain ⟨f_rank_by, fd_rank_by, n_rank_by, m_rank_by⟩ : ∃ f fd, L2.Fun _ "rank_by" "rank_by" K75.s_rank_by f fd ∧ mg "rank_by" = some (.ref f) := by
      refine' VL.def_mk KX G ?zza ?zzl ?zzc ?zzk; (case zza => k_is); (case zzl => k_is); (case zzc => k_is); (case zzk => k_is)
    obtain ⟨f_mutual_pairs, fd_mutual_pairs, n_mutual_pairs, m_mutual_pairs⟩ : ∃ f fd, L2.Fun _ "mutual_pairs" "mutual_pairs" K75.s_mutual_pairs f fd ∧ mg "mutual_pairs" = some (.ref f) := by
      refine' VL.def_mk KX G ?zza ?zzl ?zzc ?zzk; (case zza => k_is); (case zzl => k_is); (case zzc => k_is); (case zzk => k_is)
    obtain ⟨f_would_break, fd_would_break, n_would_break, m_would_break⟩ : ∃ f fd, L2.Fun _ "would_break" "would_break" K75.s_would_break f fd ∧ mg "would_break" = some (.ref f) := by
      refine' VL.def_mk KX G ?zza ?zzl ?zzc ?zzk; (case zza => k_is); (case zzl => k_is); (case zzc => k_is); (case zzk => k_is)
    obtain ⟨f_blocks_by, fd_blocks_by, n_blocks_by, m_blocks_by⟩ : ∃ f fd, L2.Fun _ "blocks_by" "blocks_by" K75.s_blocks_by f fd ∧ mg "blocks_by" = some (.ref f) := by
      refine' VL.def_mk KX G ?zza ?zzl ?zzc ?zzk; (case zza => k_is); (case zzl => k_is); (case zzc => k_is); (case zzk => k_is)
    obtain ⟨f_ranks_by, fd_ranks_by, n_ranks_by, m_ranks_by⟩ : ∃ f fd, L2.Fun _ "ranks_by" "ranks_by" K75.s_ranks_by f fd ∧ mg "ranks_by" = some (.ref f) := by
      refine' VL.def_mk KX G ?zza ?zzl ?zzc ?zzk; (case zza => k_is); (case zzl => k_is); (case zzc => k_is); (case zzk => k_is)
    obtain ⟨f_all_mates_by, fd_all_mates_by, n_all_mates_by, m_all_mates_by⟩ : ∃ f fd, L2.Fun _ "all_mates_by" "all_mates_by" K75.s_all_mates_by f fd ∧ mg "all_mates_by" = some (.ref f) := by
      refine' VL.def_mk KX G ?zza ?zzl ?zzc ?zzk; (case zza => k_is); (case zzl => k_is); (case zzc => k_is); (case zzk => k_is)
    obtain ⟨f_all_steady_by, fd_all_steady_by, n_all_steady_by, m_all_steady_by⟩ : ∃ f fd, L2.Fun _ "all_steady_by" "all_steady_by" K75.s_all_steady_by f fd ∧ mg "all_steady_by" = some (.ref f) := by
      refine' VL.def_mk KX G ?zza ?zzl ?zzc ?zzk; (case zza => k_is); (case zzl => k_is); (case zzc => k_is); (case zzk => k_is)
    obtain ⟨f_all_steady, fd_all_steady, n_all_steady, m_all_steady⟩ : ∃ f fd, L2.Fun _ "all_steady" "all_steady" K75.s_all_steady f fd ∧ mg "all_steady" = some (.ref f) := by
      refine' VL.def_mk KX G ?zza ?zzl ?zzc ?zzk; (case zza => k_is); (case zzl => k_is); (case zzc => k_is); (case zzk => k_is)
    obtain ⟨f_need_some_steady, fd_need_some_steady, n_need_some_steady, m_need_some_steady⟩ : ∃ f fd, L2.Fun _ "need_some_steady" "need_some_steady" K75.s_need_some_steady f fd ∧ mg "need_some_steady" = some (.ref f) := by
      refine' VL.def_mk KX G ?zza ?zzl ?zzc ?zzk; (case zza => k_is); (case zzl => k_is); (case zzc => k_is); (case zzk => k_is)
    obtain ⟨f_always_alone, fd_always_alone, n_always_alone, m_always_alone⟩ : ∃ f fd, L2.Fun _ "always_alone" "always_alone" K75.s_always_alone f fd ∧ mg "always_alone" = some (.ref f) := by
      refine' VL.def_mk KX G ?zza ?zzl ?zzc ?zzk; (case zza => k_is); (case zzl => k_is); (case zzc => k_is); (case zzk => k_is)
    refine' (fun e_cheapest_steady => ?g_cheapest_steady) (VL.defC_mk (x := "cheapest_steady") (st := K75.s_cheapest_steady) KX G ?zza ?zzl ?zzc ?zzk ?zzq ?zzv ?zzn); (case zza => k_is); (case zzl => k_is); (case zzc => k_is); (case zzk => k_is); (case zzq => k_is); (case zzv => rfl); (case zzn => first | rfl | kernel_rfl)
    obtain ⟨n_cheapest_steady, m_cheapest_steady, q_cheapest_steady, nt_cheapest_steady⟩ := e_cheapest_steady
    refine' (fun e_kindest_steady => ?g_kindest_steady) (VL.defC_mk (x := "kindest_steady") (st := K75.s_kindest_steady) KX G ?zza ?zzl ?zzc ?zzk ?zzq ?zzv ?zzn); (case zza => k_is); (case zzl => k_is); (case zzc => k_is); (case zzk => k_is); (case zzq => k_is); (case zzv => rfl); (case zzn => first | rfl | kernel_rfl)
    obtain ⟨n_kindest_steady, m_kindest_steady, q_kindest_steady, nt_kindest_steady⟩ := e_kindest_steady
    obtain ⟨f__law_tape, fd__law_tape, n__law_tape, m__law_tape⟩ : ∃ f fd, L2.Fun _ "_law_tape" "_law_tape" K75.s__law_tape f fd ∧ mg "_law_tape" = some (.ref f) := by
      refine' VL.def_mk KX G ?zza ?zzl ?zzc ?zzk; (case zza => k_is); (case zzl => k_is); (case zzc => k_is); (case zzk => k_is)
    obtain ⟨f__law_take, fd__law_take, n__law_take, m__law_take⟩ : ∃ f fd, L2.Fun _ "_law_take" "_law_take" K75.s__law_take f fd ∧ mg "_law_take" = some (.ref f) := by
      refine' VL.def_mk KX G ?zza ?zzl ?zzc ?zzk; (case zza => k_is); (case zzl => k_is); (case zzc => k_is); (case zzk => k_is)
    obtain ⟨f__law_like, fd__law_like, n__law_like, m__law_like⟩ : ∃ f fd, L2.Fun _ "_law_like" "_law_like" K75.s__law_like f fd ∧ mg "_law_like" = some (.ref f) := by
      refine' VL.def_mk KX G ?zza ?zzl ?zzc ?zzk; (case zza => k_is); (case zzl => k_is); (case zzc => k_is); (case zzk => k_is)
    obtain ⟨f__law_is, fd__law_is, n__law_is, m__law_is⟩ : ∃ f fd, L2.Fun _ "_law_is" "_law_is" K75.s__law_is f fd ∧ mg "_law_is" = some (.ref f) := by
      refine' VL.def_mk KX G ?zza ?zzl ?zzc ?zzk; (case zza => k_is); (case zzl => k_is); (case zzc => k_is); (case zzk => k_is)
    obtain ⟨f__law_told, fd__law_told, n__law_told, m__law_told⟩ : ∃ f fd, L2.Fun _ "_law_told" "_law_told" K75.s__law_told f fd ∧ mg "_law_told" = some (.ref f) := by
      refine' VL.def_mk KX G ?zza ?zzl ?zzc ?zzk; (case zza => k_is); (case zzl => k_is); (case zzc => k_is); (case zzk => k_is)
    obtain ⟨f__law_mixed, fd__law_mixed, n__law_mixed, m__law_mixed⟩ : ∃ f fd, L2.Fun _ "_law_mixed" "_law_mixed" K75.s__law_mixed f fd ∧ mg "_law_mixed" = some (.ref f) := by
      refine' VL.def_mk KX G ?zza ?zzl ?zzc ?zzk; (case zza => k_is); (case zzl => k_is); (case zzc => k_is); (case zzk => k_is)
    obtain ⟨f__law_wishes, fd__law_wishes, n__law_wishes, m__law_wishes⟩ : ∃ f fd, L2.Fun _ "_law_wishes" "_law_wishes" K75.s__law_wishes f fd ∧ mg "_law_wishes" = some (.ref f) := by
      refine' VL.def_mk KX G ?zza ?zzl ?zzc ?zzk; (case zza => k_is); (case zzl => k_is); (case zzc => k_is); (case zzk => k_is)
    obtain ⟨f__law_rank, fd__law_rank, n__law_rank, m__law_rank⟩ : ∃ f fd, L2.Fun _ "_law_rank" "_law_rank" K75.s__law_rank f fd ∧ mg "_law_rank" = some (.ref f) := by
      refine' VL.def_mk KX G ?zza ?zzl ?zzc ?zzk; (case zza => k_is); (case zzl => k_is); (case zzc => k_is); (case zzk => k_is)
    obtain ⟨f__law_all_mates, fd__law_all_mates, n__law_all_mates, m__law_all_mates⟩ : ∃ f fd, L2.Fun _ "_law_all_mates" "_law_all_mates" K75.s__law_all_mates f fd ∧ mg "_law_all_mates" = some (.ref f) := by
      refine' VL.def_mk KX G ?zza ?zzl ?zzc ?zzk; (case zza => k_is); (case zzl => k_is); (case zzc => k_is); (case zzk => k_is)
    obtain ⟨f__law_blocks, fd__law_blocks, n__law_blocks, m__law_blocks⟩ : ∃ f fd, L2.Fun _ "_law_blocks" "_law_blocks" K75.s__law_blocks f fd ∧ mg "_law_blocks" = some (.ref f) := by
      refine' VL.def_mk KX G ?zza ?zzl ?zzc ?zzk; (case zza => k_is); (case zzl => k_is); (case zzc => k_is); (case zzk => k_is)
    obtain ⟨f__law_steady, fd__law_steady, n__law_steady, m__law_steady⟩ : ∃ f fd, L2.Fun _ "_law_steady" "_law_steady" K75.s__law_steady f fd ∧ mg "_law_steady" = some (.ref f) := by
      refine' VL.def_mk KX G ?zza ?zzl ?zzc ?zzk; (case zza => k_is); (case zzl => k_is); (case zzc => k_is); (case zzk => k_is)
    obtain ⟨f__law_bent_wishes, fd__law_bent_wishes, n__law_bent_wishes, m__law_bent_wishes⟩ : ∃ f fd, L2.Fun _ "_law_bent_wishes" "_law_bent_wishes" K75.s__law_bent_wishes f fd ∧ mg "_law_bent_wishes" = some (.ref f) := by
      refine' VL.def_mk KX G ?zza ?zzl ?zzc ?zzk; (case zza => k_is); (case zzl => k_is); (case zzc => k_is); (case zzk => k_is)
    refine' (fun e__law_right => ?g__law_right) (VL.defC_mk (x := "_law_right") (st := K75.s__law_right) KX G ?zza ?zzl ?zzc ?zzk ?zzq ?zzv ?zzn); (case zza => k_is); (case zzl => k_is); (case zzc => k_is); (case zzk => k_is); (case zzq => k_is); (case zzv => rfl); (case zzn => first | rfl | kernel_rfl)
    obtain ⟨n__law_right, m__law_right, q__law_right, nt__law_right⟩ := e__law_right
    obtain ⟨f__law_many, fd__law_many, n__law_many, m__law_many⟩ : ∃ f fd, L2.Fun _ "_law_many" "_law_many" K75.s__law_many f fd ∧ mg "_law_many" = some (.ref f) := by
      refine' VL.def_mk KX G ?zza ?zzl ?zzc ?zzk; (case zza => k_is); (case zzl => k_is); (case zzc => k_is); (case zzk => k_is)
    refine' (fun e_law => ?g_law) (VL.defC_mk (x := "law") (st := K75.s_law) KX G ?zza ?zzl ?zzc ?zzk ?zzq ?zzv ?zzn); (case zza => k_is); (case zzl => k_is); (case zzc => k_is); (case zzk => k_is); (case zzq => k_is); (case zzv => rfl); (case zzn => first | rfl | kernel_rfl)
    obtain ⟨n_law, m_law, q_law, nt_law⟩ := e_law
    refine' (fun o_BadList => ?g_BadList) (VL.xo_mk (x := "BadList") (P := PySem.Challenge.rw_pairedoff_k75_whole_steady_mates.prog) (w := w) (qual := "BadList.__init__") (arg := "place") (fld := "place") (scope := L2.defScope (VL.initOf (K75.topS 2))) (params := L2.defArgs (VL.initOf (K75.topS 2))) (name := "__init__") KX G ?zza VL.bx_ValueError ?zzini ?zzlk ?zzexI ?zzfn ?zzcd ?zzcod ?zzcod2 ?zzcod3 ?zzcell ?zzcls ?zzmro ?zznos ?zztop ?zzopa ?zzsup ?zzsub ?zzsa ?zzov ?zztk ?zzhd ?zzexC ?zztyC ?zzkC ?zzsc ?zzna ?zznd ?zzhe ?zzhp ?zzhbind ?zzhdb)
    case zza => first | k_is | kx_is
    case zzini => first | k_is | kx_is
    case zzlk => first | k_is | kx_is
    case zzexI => first | k_is | kx_is
    case zzfn => first | k_is | kx_is
    case zzcd => first | k_is | kx_is
    case zzcod => first | k_is | kx_is
    case zzcod2 => rfl
    case zzcod3 => first | rfl | decide +kernel
    case zzcell => first | k_is | kx_is
    case zzcls => first | k_is | kx_is
    case zzmro => first | k_is | kx_is
    case zznos => first | k_is | kx_is
    case zztop => rfl
    case zzopa => first | k_is | kx_is | rfl
    case zzsup => first | k_is | kx_is | rfl
    case zzsub => first | k_is | kx_is | rfl
    case zzsa => first | k_is | kx_is | rfl
    case zzov => first | k_is | kx_is | rfl
    case zztk => first | k_is | kx_is | rfl
    case zzhd => first | k_is | kx_is | rfl
    case zzexC => first | k_is | kx_is | rfl
    case zztyC => first | k_is | kx_is | rfl
    case zzkC => first | k_is | kx_is | rfl
    case zzsc => exact ⟨rfl, rfl, rfl, rfl, rfl, rfl, rfl, by decide +kernel⟩
    case zzna => decide
    case zznd => decide
    case zzhe => exact fun env => ⟨_, rfl⟩
    case zzhp => rfl
    case zzhbind => exact fun s u v => .of_eq rfl
    case zzhdb => decide
    refine' (fun o_NoSuch => ?g_NoSuch) (VL.xo_mk (x := "NoSuch") (P := PySem.Challenge.rw_pairedoff_k75_whole_steady_mates.prog) (w := w) (qual := "NoSuch.__init__") (arg := "value") (fld := "value") (scope := L2.defScope (VL.initOf (K75.topS 3))) (params := L2.defArgs (VL.initOf (K75.topS 3))) (name := "__init__") KX G ?zza VL.bx_LookupError ?zzini ?zzlk ?zzexI ?zzfn ?zzcd ?zzcod ?zzcod2 ?zzcod3 ?zzcell ?zzcls ?zzmro ?zznos ?zztop ?zzopa ?zzsup ?zzsub ?zzsa ?zzov ?zztk ?zzhd ?zzexC ?zztyC ?zzkC ?zzsc ?zzna ?zznd ?zzhe ?zzhp ?zzhbind ?zzhdb)
    case zza => first | k_is | kx_is
    case zzini => first | k_is | kx_is
    case zzlk => first | k_is | kx_is
    case zzexI => first | k_is | kx_is
    case zzfn => first | k_is | kx_is
    case zzcd => first | k_is | kx_is
    case zzcod => first | k_is | kx_is
    case zzcod2 => rfl
    case zzcod3 => first | rfl | decide +kernel
    case zzcell => first | k_is | kx_is
    case zzcls => first | k_is | kx_is
    case zzmro => first | k_is | kx_is
    case zznos => first | k_is | kx_is
    case zztop => rfl
    case zzopa => first | k_is | kx_is | rfl
    case zzsup => first | k_is | kx_is | rfl
    case zzsub => first | k_is | kx_is | rfl
    case zzsa => first | k_is | kx_is | rfl
    case zzov => first | k_is | kx_is | rfl
    case zztk => first | k_is | kx_is | rfl
    case zzhd => first | k_is | kx_is | rfl
    case zzexC => first | k_is | kx_is | rfl
    case zztyC => first | k_is | kx_is | rfl
    case zzkC => first | k_is | kx_is | rfl
    case zzsc => exact ⟨rfl, rfl, rfl, rfl, rfl, rfl, rfl, by decide +kernel⟩
    case zzna => decide
    case zznd => decide
    case zzhe => exact fun env => ⟨_, rfl⟩
    case zzhp => rfl
    case zzhbind => exact fun s u v => .of_eq rfl
    case zzhdb => decide
    refine' (fun k_BadList => ?g_kBadList) (VL.caok_mk (x := "BadList") (fld := "place") KX G ?zza ?zzga ?zzgg ?zzex ?zzhd ?zzno)
    case zza => first | k_is | kx_is | rfl
    case zzga => first | k_is | kx_is | rfl
    case zzgg => first | k_is | kx_is | rfl
    case zzex => first | k_is | kx_is | rfl
    case zzhd => first | k_is | kx_is | rfl
    case zzno => first | k_is | kx_is | rfl
    refine' (fun k_NoSuch => ?g_kNoSuch) (VL.caok_mk (x := "NoSuch") (fld := "value") KX G ?zza ?zzga ?zzgg ?zzex ?zzhd ?zzno)
    case zza => first | k_is | kx_is | rfl
    case zzga => first | k_is | kx_is | rfl
    case zzgg => first | k_is | kx_is | rfl
    case zzex => first | k_is | kx_is | rfl
    case zzhd => first | k_is | kx_is | rfl
    case zzno => first | k_is | kx_is | rfl
    have efa := m_law.symm.trans hmg
    refine' K75.all (l := PySem.Challenge.rw_pairedoff_k75_whole_steady_mates) (h := h) n_is_number m_is_number n_is_among m_is_among n_is_tuple_of m_is_tuple_of n_is_list_of m_is_list_of n_need_wishes m_need_wishes n_rank_by m_rank_by n_mutual_pairs m_mutual_pairs n_would_break m_would_break n_blocks_by m_blocks_by n_ranks_by m_ranks_by n_all_mates_by m_all_mates_by n_all_steady_by m_all_steady_by n_all_steady m_all_steady n_need_some_steady m_need_some_steady n_always_alone m_always_alone n_cheapest_steady m_cheapest_steady n_kindest_steady m_kindest_steady n__law_tape m__law_tape n__law_take m__law_take n__law_like m__law_like n__law_is m__law_is n__law_told m__law_told n__law_mixed m__law_mixed n__law_wishes m__law_wishes n__law_rank m__law_rank n__law_all_mates m__law_all_mates n__law_blocks m__law_blocks n__law_steady m__law_steady n__law_bent_wishes m__law_bent_wishes n__law_right m__law_right n__law_many m__law_many n_law m_law o_BadList o_NoSuch k_BadList k_NoSuch ?zzexm ?zzne0_1 (mg_none_of KX G ?zzb_abs) (mg_none_of KX G ?zzb_all) (mg_none_of KX G ?zzb_bool) (mg_none_of KX G ?zzb_enumerate) (mg_none_of KX G ?zzb_int) (mg_none_of KX G ?zzb_isinstance) (mg_none_of KX G ?zzb_len) (mg_none_of KX G ?zzb_list) (mg_none_of KX G ?zzb_max) (mg_none_of KX G ?zzb_min) (mg_none_of KX G ?zzb_range) (mg_none_of KX G ?zzb_sorted) (mg_none_of KX G ?zzb_str) (mg_none_of KX G ?zzb_sum) (mg_none_of KX G ?zzb_tuple) (mg_none_of KX G ?zzb_zip) ⟨trivial, mg_of KX G ?zzc_MOST_PEOPLE⟩ ?zznd (tabs "cheapest_steady" _ _ (by rfl) q_cheapest_steady) nt_cheapest_steady (tabs "kindest_steady" _ _ (by rfl) q_kindest_steady) nt_kindest_steady (tabs "_law_right" _ _ (by rfl) q__law_right) nt__law_right (tabs "law" _ _ (by rfl) q_law) nt_law (Value.ref.inj (Option.some.inj efa))
    case zzexm =>
      intro c hc c' hc'
      simp only [K75.tcs, List.mem_cons, List.not_mem_nil, or_false] at hc hc'
      rcases hc with rfl | rfl <;> rcases hc' with rfl | rfl
      all_goals first | k_is | kx_is | rfl | decide +kernel
    case zzne0_1 => decide
    case zzb_abs => k_is
    case zzb_all => k_is
    case zzb_bool => k_is
    case zzb_enumerate => k_is
    case zzb_int => k_is
    case zzb_isinstance => k_is
    case zzb_len => k_is
    case zzb_list => k_is
    case zzb_max => k_is
    case zzb_min => k_is
    case zzb_range => k_is
    case zzb_sorted => k_is
    case zzb_str => k_is
    case zzb_sum => k_is
    case zzb_tuple => k_is
    case zzb_zip => k_is
    case zzc_MOST_PEOPLE => k_is
    case zznd => decide

