import PyProof.Rows.All
import Wide.All
import OpenK.AllK
import Wide.FinOn
import HandS.ForMost
import HandS.Exc
import HandS.TryMany
import HandS.ExcInit
import HandS.ExcField
import HandS.DictComp
import HandS.Flow
import HandS.TupAny
import HandS.Deep
import HandS.Conv
import HandS.CallSlots
import HandS.IsInst
import HandS.Walk
import HandS.Defaults
import KE.SortData
import KE.KDictKeyed
import KE.KDictWalk
import HandS.HeadHook2
import HandS.HeadEnd
import HandS.Head0
import HandS.Head1
import HandS.Head2
import PyProof.SeqIndex
import HandS.Codes
import HandS.Style
import KE.KUnpack
import HandS.Ends
import HandS.TupLen
import HandS.RaiseMore
import HandS.ExcIs
import HandS.ExcOwn
import PySem.Challenge.RW_onebusyline_k01_errors
set_option Elab.async false
set_option linter.all false
set_option maxRecDepth 100000
set_option maxHeartbeats 0
/-! Pi1: plain values, the abstract heap, what they stand for over the hand layer's heap. -/
namespace Pi
open PyProof.Rows PySem L2 PySem.Spec

/-- a value: numbers, texts, tuples, exceptions by value; lists that nobody writes by value (frl); what may change by its number (ref) -/
inductive D where
  | non | bl (b : Bool) | int (i : Int) | str (x : Str) | tup (xs : List D) | frl (xs : List D) | exv (c : Str) (fs : List Str) (xs : List D) | ref (n : Nat)
  deriving Inhabited
/-- an object that may change -/
inductive AO where
  | lst (xs : List D)
  | dic (kvs : List (D × D))
  | ins (c : Str) (fs : List (Str × D))
  deriving Inhabited
abbrev AH := List AO
/-- an outcome: a value; an exception (class, fields); nothing told -/
inductive R (α : Type) where
  | ok (a : α) (A : AH)
  | ex (c : Str) (fs : List (Str × D)) (A : AH)
  | no
abbrev M (α : Type) := AH → R α
def ret {α : Type} (a : α) : M α := fun A => .ok a A
def bnd {α β : Type} (m : M α) (k : α → M β) : M β := fun A => match m A with
  | .ok a A' => k a A'
  | .ex c fs A' => .ex c fs A'
  | .no => .no
def noM {α : Type} : M α := fun _ => .no

section
variable (K : PySem.W.Frag)
/-- a tuple's items: tracked, not one that may change; or the module's own -/
def TupAt (μ : List Addr) (H : Hp) (p : Addr) (vs : List V) : Prop := (p ∉ μ ∧ ∃ o, o.dict = none ∧ H p = some (.frz o (.tup vs))) ∨
  ∃ (o : Obj) (its : Array Value) (n : Nat), K.lookup p = some o ∧ o.cls = .type "tuple" ∧ o.dict = none ∧ o.data = .seq its n ∧ its.size ≤ sizeLine ∧ Vals vs its.toList
def LstAt (μ : List Addr) (H : Hp) (p : Addr) (vs : List V) : Prop := (p ∉ μ ∧ ∃ o, H p = some (.frz o (.lst vs))) ∨
  ∃ (o : Obj) (its : Array Value) (n : Nat), K.lookup p = some o ∧ o.cls = .type "list" ∧ o.dict = none ∧ o.data = .seq its n ∧ its.size ≤ sizeLine ∧ Vals vs its.toList
/-- at e: an exception of the class at C that has been made, its dict at d -/
def exg (e C : Addr) (d : Option Addr) : HO := .ext fun h => ∃ oe vs, h.get? e = some oe ∧ Zc (.ref C) d oe ∧ oe.data = .fields vs
/-- an exception, its fields' values -/
def ExAt (μ : List Addr) (H : Hp) (p : Addr) (c : Str) (fs : List Str) (vs : List V) : Prop := p ∉ μ ∧ ((fs = [] ∧ H p = some (exg p (He.ga K c) none)) ∨ ∃ d, H p = some (exg p (He.ga K c) (some d)) ∧ d ∉ μ ∧ H d = some (.xd (fs.zip vs)))
mutual
/-- the value v of the layer stands for d -/
def DV (μ : List Addr) (H : Hp) : D → V → Prop
  | .non, v => v = .non
  | .bl b, v => v = .bl b
  | .int i, v => v = .int i
  | .str x, v => v = .str x
  | .tup ds, v => ∃ p vs, v = .ref p ∧ TupAt K μ H p vs ∧ DVs μ H ds vs
  | .frl ds, v => ∃ p vs, v = .ref p ∧ LstAt K μ H p vs ∧ DVs μ H ds vs
  | .exv c fs ds, v => ∃ p vs, v = .ref p ∧ ds.length = fs.length ∧ ExAt K μ H p c fs vs ∧ DVs μ H ds vs
  | .ref n, v => ∃ a, v = .ref a ∧ μ[n]? = some a
def DVs (μ : List Addr) (H : Hp) : List D → List V → Prop
  | [], vs => vs = []
  | d :: ds, vs => ∃ v r, vs = v :: r ∧ DV μ H d v ∧ DVs μ H ds r
end
end

/-- the world goes on: what may change keeps its place, all else is kept (tables of code objects grow) -/
structure Le (μ : List Addr) (H : Hp) (μ' : List Addr) (H' : Hp) : Prop where
  pre : ∃ t, μ' = μ ++ t
  keep : ∀ b o, H b = some o → b ∉ μ → (∀ ps, o ≠ .tbl ps) → H' b = some o
  tab : ∀ b ps, H b = some (.tbl ps) → b ∉ μ → ∃ qs, H' b = some (.tbl qs)
  out : ∀ b o, H b = some o → b ∉ μ → b ∉ μ'
theorem Le.refl (μ : List Addr) (H : Hp) : Le μ H μ H := ⟨⟨[], by simp⟩, (fun _ _ h _ _ => h), (fun _ ps h _ => ⟨ps, h⟩), (fun _ _ _ h => h)⟩
theorem tblOr (o : HO) : (∃ ps, o = .tbl ps) ∨ ∀ ps, o ≠ .tbl ps := by
  cases o with
  | tbl ps => exact .inl ⟨ps, rfl⟩
  | _ => exact .inr fun _ h => nomatch h
section
variable {μ μ1 μ2 μ' : List Addr} {H H1 H2 H' : Hp} {K : PySem.W.Frag}
theorem Le.there (a : Le μ H μ1 H1) {c : Addr} {o : HO} (h : H c = some o) (n : c ∉ μ) : ∃ o', H1 c = some o' := by
  rcases tblOr o with ⟨ps, rfl⟩ | z
  · obtain ⟨qs, e⟩ := a.tab c ps h n
    exact ⟨_, e⟩
  · exact ⟨o, a.keep c o h n z⟩
theorem Le.trans (a : Le μ H μ1 H1) (b : Le μ1 H1 μ2 H2) : Le μ H μ2 H2 := by
  refine ⟨?_, fun c o h n t => b.keep c o (a.keep c o h n t) (a.out c o h n) t, fun c ps h n => ?_, fun c o h n => ?_⟩
  · obtain ⟨t, e⟩ := a.pre
    obtain ⟨u, e'⟩ := b.pre
    exact ⟨t ++ u, by rw [e', e, List.append_assoc]⟩
  · obtain ⟨qs, e⟩ := a.tab c ps h n
    exact b.tab c qs e (a.out c _ h n)
  · obtain ⟨o', e⟩ := a.there h n
    exact b.out c o' e (a.out c o h n)
theorem Le.at (a : Le μ H μ1 H1) {n : Nat} {x : Addr} (h : μ[n]? = some x) : μ1[n]? = some x := by
  obtain ⟨t, rfl⟩ := a.pre
  rw [List.getElem?_append_left (List.getElem?_eq_some_iff.mp h).1]
  exact h
theorem TupAt.le {p : Addr} {vs : List V} (h : TupAt K μ H p vs) (a : Le μ H μ1 H1) : TupAt K μ1 H1 p vs := by
  rcases h with ⟨n, o, d, h⟩ | h
  · exact .inl ⟨a.out p _ h n, o, d, a.keep p _ h n fun _ z => nomatch z⟩
  · exact .inr h
theorem LstAt.le {p : Addr} {vs : List V} (h : LstAt K μ H p vs) (a : Le μ H μ1 H1) : LstAt K μ1 H1 p vs := by
  rcases h with ⟨n, o, h⟩ | h
  · exact .inl ⟨a.out p _ h n, o, a.keep p _ h n fun _ z => nomatch z⟩
  · exact .inr h
theorem ExAt.le {p : Addr} {c : Str} {fs : List Str} {vs : List V} (h : ExAt K μ H p c fs vs) (a : Le μ H μ1 H1) : ExAt K μ1 H1 p c fs vs := by
  obtain ⟨n, ⟨e, h⟩ | ⟨d, h, nd, hd⟩⟩ := h
  · exact ⟨a.out p _ h n, .inl ⟨e, a.keep p _ h n fun _ z => (by unfold exg at z; cases z)⟩⟩
  · exact ⟨a.out p _ h n, .inr ⟨d, a.keep p _ h n (fun _ z => (by unfold exg at z; cases z)), a.out d _ hd nd, a.keep d _ hd nd fun _ z => nomatch z⟩⟩
theorem TupAt.sq {p : Addr} {vs : List V} (h : TupAt K μ H p vs) : SqT K H p vs := by
  rcases h with ⟨n, o, d, h⟩ | ⟨o, its, n, h1, h2, h3, h4⟩
  · exact .inl (.inr ⟨o, h⟩)
  · exact .inr ⟨o, its, n, h1, h2, h4⟩
theorem LstAt.sq {p : Addr} {vs : List V} (h : LstAt K μ H p vs) : SqL K H p vs := by
  rcases h with ⟨n, o, h⟩ | h
  · exact .inl (.inr ⟨o, h⟩)
  · exact .inr h
mutual
theorem DV.le (a : Le μ H μ1 H1) : ∀ (d : D) (v : V), DV K μ H d v → DV K μ1 H1 d v
  | .non, _, h => h
  | .bl _, _, h => h
  | .int _, _, h => h
  | .str _, _, h => h
  | .tup ds, v, h => by
    obtain ⟨p, vs, e, t, q⟩ := h
    exact ⟨p, vs, e, t.le a, DVs.le a ds vs q⟩
  | .frl ds, v, h => by
    obtain ⟨p, vs, e, t, q⟩ := h
    exact ⟨p, vs, e, t.le a, DVs.le a ds vs q⟩
  | .exv c fs ds, v, h => by
    obtain ⟨p, vs, e, l, t, q⟩ := h
    exact ⟨p, vs, e, l, t.le a, DVs.le a ds vs q⟩
  | .ref n, v, h => by
    obtain ⟨x, e, q⟩ := h
    exact ⟨x, e, a.at q⟩
theorem DVs.le (a : Le μ H μ1 H1) : ∀ (ds : List D) (vs : List V), DVs K μ H ds vs → DVs K μ1 H1 ds vs
  | [], _, h => h
  | d :: ds, vs, h => by
    obtain ⟨v, r, e, h1, h2⟩ := h
    exact ⟨v, r, e, DV.le a d v h1, DVs.le a ds r h2⟩
end
theorem DVs.length : ∀ {ds : List D} {vs : List V}, DVs K μ H ds vs → vs.length = ds.length
  | [], vs, h => by
    rw [show vs = [] from h]
    rfl
  | d :: ds, vs, h => by
    obtain ⟨v, r, e, _, h2⟩ := h
    rw [e, List.length_cons, List.length_cons, DVs.length h2]
theorem DVs.get : ∀ {ds : List D} {vs : List V} {i : Nat} {d : D}, DVs K μ H ds vs → ds[i]? = some d → ∃ v, vs[i]? = some v ∧ DV K μ H d v
  | [], _, _, _, _, e => by simp at e
  | d :: ds, vs, 0, _, h, e => by
    obtain ⟨v, r, rfl, h1, _⟩ := h
    simp at e
    subst e
    exact ⟨v, rfl, h1⟩
  | d :: ds, vs, i + 1, _, h, e => by
    obtain ⟨v, r, rfl, _, h2⟩ := h
    simpa using DVs.get (i := i) h2 (by simpa using e)
theorem DVs.app : ∀ {ds es : List D} {vs ws : List V}, DVs K μ H ds vs → DVs K μ H es ws → DVs K μ H (ds ++ es) (vs ++ ws)
  | [], _, _, _, h, q => by
    rw [show _ = [] from h]
    exact q
  | d :: ds, es, vs, ws, h, q => by
    obtain ⟨v, r, rfl, h1, h2⟩ := h
    exact ⟨v, r ++ ws, rfl, h1, DVs.app h2 q⟩
theorem DVs.cons {d : D} {ds : List D} {v : V} {vs : List V} (h : DV K μ H d v) (t : DVs K μ H ds vs) : DVs K μ H (d :: ds) (v :: vs) := ⟨v, vs, rfl, h, t⟩
theorem DVs.drop : ∀ {ds : List D} {vs : List V} (n : Nat), DVs K μ H ds vs → DVs K μ H (ds.drop n) (vs.drop n)
  | ds, vs, 0, h => by simpa using h
  | [], vs, n + 1, h => by
    rw [show vs = [] from h]
    exact rfl
  | d :: ds, vs, n + 1, h => by
    obtain ⟨v, r, rfl, _, h2⟩ := h
    simpa using DVs.drop n h2
theorem DVs.take : ∀ {ds : List D} {vs : List V} (n : Nat), DVs K μ H ds vs → DVs K μ H (ds.take n) (vs.take n)
  | ds, vs, 0, h => rfl
  | [], vs, n + 1, h => by
    rw [show vs = [] from h]
    exact rfl
  | d :: ds, vs, n + 1, h => by
    obtain ⟨v, r, rfl, h1, h2⟩ := h
    exact ⟨v, r.take n, rfl, h1, DVs.take n h2⟩
theorem DVs.set : ∀ {ds : List D} {vs : List V} {d : D} {v : V} (i : Nat), DVs K μ H ds vs → DV K μ H d v → DVs K μ H (ds.set i d) (vs.set i v)
  | [], vs, _, _, _, h, _ => by
    rw [show vs = [] from h]
    exact rfl
  | d :: ds, vs, e, w, 0, h, q => by
    obtain ⟨v, r, rfl, h1, h2⟩ := h
    exact ⟨w, r, rfl, q, h2⟩
  | d :: ds, vs, e, w, i + 1, h, q => by
    obtain ⟨v, r, rfl, h1, h2⟩ := h
    exact ⟨v, r.set i w, rfl, h1, DVs.set i h2 q⟩
theorem DVs.rev : ∀ {ds : List D} {vs : List V}, DVs K μ H ds vs → DVs K μ H ds.reverse vs.reverse
  | [], vs, h => by
    rw [show vs = [] from h]
    exact rfl
  | d :: ds, vs, h => by
    obtain ⟨v, r, rfl, h1, h2⟩ := h
    rw [List.reverse_cons, List.reverse_cons]
    exact DVs.app (DVs.rev h2) ⟨v, [], rfl, h1, rfl⟩
theorem DVs.erase : ∀ {ds : List D} {vs : List V} (i : Nat), DVs K μ H ds vs → DVs K μ H (ds.eraseIdx i) (vs.eraseIdx i)
  | [], vs, _, h => by
    rw [show vs = [] from h]
    exact rfl
  | d :: ds, vs, 0, h => by
    obtain ⟨v, r, rfl, h1, h2⟩ := h
    exact h2
  | d :: ds, vs, i + 1, h => by
    obtain ⟨v, r, rfl, h1, h2⟩ := h
    exact ⟨v, r.eraseIdx i, rfl, h1, DVs.erase i h2⟩
end
end Pi

/-! Pt: what makes tuples, the new object known: displays, t + u, slices, tuple(xs), pairs of enumerate and zip. -/
namespace Pi
open PyProof.Rows PySem L2 PySem.Spec
/-- a tuple, its object known -/
def ftp (o : Obj) (vs : List V) : HO := .frz o (.tup vs)
/-- a new one comes -/
def NewT (Hv : Hp) (Q : VK) (vs : List V) : Prop := ∀ p o, Hv p = none → o.dict = none → Q (.ref p) (upd Hv p (ftp o vs))
section
variable {X : Cx} {pn : List (Addr × Obj)} {sg : L2.St} {Hv : Hp} {sv : Shared}
theorem ftp_ok {P : Program} {w : World} {G : Hp} {h : Heap} {a : Addr} {o : Obj} {vs : List V} {us : List Value} {n : Nat} (z : vs.length ≤ sizeLine) (r : Vals vs us) (e : h.get? a = some o) (hc : o.cls = .type "tuple") (hd : o.data = .seq us.toArray n) : ObjOk P w G h a (ftp o vs) :=
  ⟨e, z, us, r, o, e, hc, n, hd⟩
/-- a new tuple is laid and known -/
theorem laidT {vs : List V} {us : List Value} {Q : VK} {tk : Nat} {h : Heap} (Iv : Inv X pn sg Hv { sv with heap := h, toks := tk }) (z : vs.length ≤ sizeLine) (r : Vals vs us) (q : NewT Hv Q vs) :
    EP X pn sg Q (.ref h.objs.size) { sv with heap := h.push { cls := .type "tuple", data := .seq us.toArray }, toks := tk } :=
  ⟨.ref h.objs.size, upd Hv h.objs.size (ftp { cls := .type "tuple", data := .seq us.toArray } vs), Iv.laid (t' := tk) (fun _ _ e => Heap.get?_push_of_some _ e) (Nat.le_refl _) (ftp_ok z r (Heap.get?_push_size _ rfl) rfl rfl), rfl, q _ _ (Iv.hok.fresh (Nat.le_refl _)) rfl⟩
def tTupF (t : TA) : TE := fun σ H Q => t σ H fun xs H1 => xs.length ≤ sizeLine ∧ NewT H1 Q xs
theorem pe_tupF {es : List Expr} {pos : Pos} {t : TA} {kt} (h : PA X es t) : PE X (.Tuple es kt pos) (tTupF t) :=
  ⟨fun pn sv sg Hv Q Iv hq => wpAny_Tuple_spliced (thn (h.run pos pn sv sg Hv _ Iv hq) fun us s1 ⟨xs, H1, I1, r, z, q⟩ => ⟨by rw [← r.length]; exact z, laidT (tk := s1.toks) I1 z r q⟩)⟩
def rCatF (K : PySem.W.Frag) : R2 := fun x y H Q => ∃ a b xs ys, x = .ref a ∧ y = .ref b ∧ SqT K H a xs ∧ SqT K H b ys ∧ xs.length + ys.length ≤ sizeLine ∧
  (xs = [] → Q (.ref b) H) ∧ (xs ≠ [] → ys = [] → Q (.ref a) H) ∧ (xs ≠ [] → ys ≠ [] → NewT H Q (xs ++ ys))
theorem op_catF : OpR X (binaryOp .Add) (rCatF X.K) := by
  intro pn sv sg Hv x y v u Q Iv rx ry h
  obtain ⟨a, b, xs, ys, rfl, rfl, ha, hb, hz, q0, q1, q2⟩ := h
  by_cases hx : xs = []
  · exact op_catA pn sv sg Hv _ _ v u Q Iv rx ry ⟨a, b, xs, ys, rfl, rfl, ha, hb, hz, q0, q1, fun z => absurd hx z⟩
  · cases rx
    cases ry
    obtain ⟨us, r1, p1, _⟩ := Iv.tuple ha
    obtain ⟨ws, r2, p2, _⟩ := Iv.tuple hb
    refine HT.cat_tup p1 p2 (fun z => hx (r1.nil_iff.mp z)) (fun z => ⟨.ref a, Hv, Iv, rfl, q1 hx (r2.nil_iff.mp z)⟩) (fun z => ?_) (by rw [← r1.length, ← r2.length]; exact hz)
    exact laidT (tk := sv.toks) Iv (by rw [List.length_append]; exact hz) (r1.append r2) (q2 hx fun w => z (r2.nil_iff.mpr w))
def rSlF (K : PySem.W.Frag) : V → Option Int → Option Int → Hp → VK → Prop := fun x lo hi H Q => ∃ a xs, x = .ref a ∧ SqT K H a xs ∧
  (HT.sIx xs.length 0 lo = 0 ∧ HT.sIx xs.length xs.length hi = xs.length → Q (.ref a) H) ∧ (¬ (HT.sIx xs.length 0 lo = 0 ∧ HT.sIx xs.length xs.length hi = xs.length) → NewT H Q (cutV xs lo hi))
theorem sl_tupF : SlR X (rSlF X.K) := by
  intro pn sv sg Hv x v vl vu lo hi sl Q Iv rx hs pl pu h
  obtain ⟨a, xs, rfl, hx, q1, q2⟩ := h
  cases rx
  obtain ⟨us, r, ht, hz⟩ := Iv.tuple hx
  have hlen : us.toArray.size = xs.length := by rw [List.size_toArray]; exact r.length.symm
  refine ⟨"tuple", _, PyProof.Rows.slot_tuple_getitem.lookup, ht.typeIs, ?_⟩
  by_cases hw : HT.sIx xs.length 0 lo = 0 ∧ HT.sIx xs.length xs.length hi = xs.length
  · exact getItem_tuple_whole ht hs pl pu (by rw [hlen]; exact hw) ⟨.ref a, Hv, Iv, rfl, q1 hw⟩
  · refine HT.getItem_tuple_cut ht hs pl pu (by rw [hlen]; exact hw) ?_ (by rw [hlen]; exact hz)
    rw [hlen]
    exact laidT (tk := sv.toks) Iv (Nat.le_trans (cutV_length xs lo hi) hz) ((r.drop _).take _) (q2 hw)
theorem call_tupF : CallR X (.type "tuple") (fun xs H Q => ∃ p ys, xs = [.ref p] ∧ ((SqL X.K H p ys ∧ NewT H Q ys) ∨ (SqT X.K H p ys ∧ Q (.ref p) H))) := by
  intro pn sv sg Hv xs us Q Iv r h
  obtain ⟨p, ys, rfl, h⟩ := h
  obtain ⟨u, rfl, rx⟩ := Vals.one r
  cases rx
  rcases h with ⟨hq, q⟩ | ⟨hq, q⟩
  · obtain ⟨zs, r', pl, hz⟩ := Iv.list hq
    refine call_tuple_list pl.isList (fun h' kp => ?_) (by rw [List.size_toArray, ← r'.length]; exact hz)
    exact laidT (tk := sv.toks) (Iv.kept (t' := sv.toks) kp) hz r' q
  · obtain ⟨zs, r', pl, hz⟩ := Iv.tuple hq
    exact call_tuple_same pl ⟨.ref p, Hv, Iv, rfl, q⟩
end
end Pi

/-! Pz: enumerate and zip whose pairs are known objects. -/
namespace Pi
open PyProof.Rows PySem L2 PySem.Spec
/-- a pair comes -/
def PairT (Hv : Hp) (v : V) (H' : Hp) (x y : V) : Prop := ∃ T o, v = .ref T ∧ Hv T = none ∧ o.dict = none ∧ H' = upd Hv T (ftp o [x, y])
def ItE (K : PySem.W.Frag) (a : Addr) : It := ⟨(Ite K a).go, fun i H v H' => ∃ x, PairT H v H' (.int (i : Nat)) x ∧ ∀ xs, SqL K H a xs → xs[i]? = some x, (Ite K a).stop⟩
def ItZ (K : PySem.W.Frag) (a b : Addr) : It := ⟨(Itz K a b).go, fun i H v H' => ∃ x y, PairT H v H' x y ∧ (∀ xs, SqL K H a xs → xs[i]? = some x) ∧ ∀ ys, SqL K H b ys → ys[i]? = some y, (Itz K a b).stop⟩
section
variable {P : Program} {w : World} {K : PySem.W.Frag} {elts : List Expr} {kk : Nat} {tpos : Pos}
theorem pair_new {X : Cx} {pn : List (Addr × Obj)} {sg : L2.St} {Hv : Hp} {sv : Shared} {h : Heap} {tk : Nat} {x y : V} {ux uy : Value} {ch : List Addr} (Iv : Inv X pn sg Hv sv) (k : ∀ b o, b ∉ ch → sv.heap.get? b = some o → h.get? b = some o) (hf : ∀ b ∈ ch, FpOk X pn Hv b)
    (e : h.get? sv.heap.objs.size = some { cls := .type "tuple", data := .seq #[ux, uy] }) (rx : RelV x ux) (ry : RelV y uy) :
    Inv X pn sg (upd Hv sv.heap.objs.size (ftp { cls := .type "tuple", data := .seq #[ux, uy] } [x, y])) { sv with heap := h, toks := tk } ∧ PairT Hv (.ref sv.heap.objs.size) (upd Hv sv.heap.objs.size (ftp { cls := .type "tuple", data := .seq #[ux, uy] } [x, y])) x y :=
  ⟨Iv.turnedNew (t' := tk) k hf (Nat.le_refl _) (ftp_ok (us := [ux, uy]) (by show 2 ≤ sizeLine; decide) (.cons rx (.cons ry .nil)) e rfl rfl), _, _, rfl, Iv.hok.fresh (Nat.le_refl _), rfl, rfl⟩
theorem turn_enumF (a e it : Addr) : Turn P w K (.Tuple elts kk tpos) (ItE K a) [e, it] e (fun i h => (∃ old, IsEnum h e it ((i : Nat) : Int) old) ∧ h.IsListIter it a i ∧ e ≠ it) :=
  let T := turn_enum (P := P) (w := w) (K := K) (elts := elts) (kk := kk) (tpos := tpos) a e it
  { mem := T.mem, obj := T.obj, keep := T.keep, done := T.done, self := T.self
    item := by
      intro X h1 h2 h3 hc i pn sv sg Hv E Iv hf st hg
      subst h1 h2 h3
      obtain ⟨⟨old, he⟩, hit, hne⟩ := st
      obtain ⟨xs, x, hq, hx⟩ := hg
      obtain ⟨zs, rv, pl, _⟩ := Iv.list hq
      obtain ⟨ux, hu, rx⟩ := rv.get hx
      have le : e < sv.heap.objs.size := Heap.lt_size he
      have li : it < sv.heap.objs.size := let ⟨_, q, _⟩ := hit; Heap.lt_size q
      refine wpAny_pyNext_enum_item he hit pl.isList (x := ux) (by simpa using hu) hne fun h' ho hit' hT _ hk => ⟨_, rfl, wpAny_letOwnedTupleGo_enum (s := { sv with heap := h', toks := sv.toks + 1 }) ho fun h'' he' sb => ?_⟩
      obtain ⟨J, pr⟩ := pair_new (tk := sv.toks + 1) (ch := [e, it]) (x := .int (i : Nat)) (y := x) Iv (fun b o nb q => (sb.2 b fun z => nb (by simp [z])).trans (hk b o (fun z => nb (by simp [z])) (fun z => nb (by simp [z])) q)) hf
        ((sb.2 _ (Nat.ne_of_gt le)).trans hT) ⟨_, rfl⟩ rx
      refine ⟨.ref _, _, J, rfl, ⟨x, pr, fun ys hy => by rw [Iv.list_inj hy hq]; exact hx⟩, ⟨⟨ux, by rw [show ((i + 1 : Nat) : Int) = (i : Int) + 1 by omega]; exact he'⟩, hit'.at fun o q => (sb.2 it (Ne.symm hne)).trans q, hne⟩, fun b hb => ?_⟩
      have lb : b < sv.heap.objs.size := by
        rcases List.mem_cons.mp hb with z | z
        · exact z ▸ le
        · exact List.mem_singleton.mp z ▸ li
      exact (upd_ne (Nat.ne_of_lt lb)).trans (hf b hb).1 }
theorem turn_zipF {a b z TI TO i1 i2 : Addr} (Ap : ZipApart z TI TO i1 i2 a b) :
    Turn P w K (.Tuple elts kk tpos) (ItZ K a b) [z, TI, TO, i1, i2] z (fun i h => IsZip h z TI TO .none ∧ IsPair h TI (.ref i1) (.ref i2) ∧ (∃ x y, IsPair h TO x y) ∧ h.IsListIter i1 a i ∧ h.IsListIter i2 b i) :=
  let T := turn_zip (P := P) (w := w) (K := K) (elts := elts) (kk := kk) (tpos := tpos) Ap
  { mem := T.mem, obj := T.obj, keep := T.keep, done := T.done, self := T.self
    item := by
      intro X e1 e2 e3 hc i pn sv sg Hv E Iv hf st hg
      subst e1 e2 e3
      have obs := T.obj i sv.heap st
      obtain ⟨hz, hTI, ⟨_, _, hTO⟩, h1, h2⟩ := st
      obtain ⟨xs, ys, x, y, qx, qy, hx, hy⟩ := hg
      obtain ⟨_, rv, p1, _⟩ := Iv.list qx
      obtain ⟨_, rw2, p2, _⟩ := Iv.list qy
      obtain ⟨ux, hu, rx⟩ := rv.get hx
      obtain ⟨uy, hu2, ry⟩ := rw2.get hy
      refine wpAny_pyNext_zip_item Ap hz hTI hTO h1 h2 p1.isList p2.isList (x := ux) (y := uy) (by simpa using hu) (by simpa using hu2) fun h' z' TO' g1 g2 hT _ hk => ⟨_, rfl, wpAny_letOwnedTupleGo_zip (s := { sv with heap := h' }) z' fun h'' z'' sb => ?_⟩
      obtain ⟨J, pr⟩ := pair_new (tk := sv.toks) (ch := [z, TI, TO, i1, i2]) Iv (fun c o nb q => (sb.2 c fun e => nb (by simp [e])).trans (hk c o (fun e => nb (by simp [e])) (fun e => nb (by simp [e])) (fun e => nb (by simp [e])) (fun e => nb (by simp [e])) q)) hf
        ((sb.2 _ (Nat.ne_of_gt (Heap.lt_size hz))).trans hT) rx ry
      refine ⟨.ref _, _, J, rfl, ⟨x, y, pr, fun l hl => by rw [Iv.list_inj hl qx]; exact hx, fun l hl => by rw [Iv.list_inj hl qy]; exact hy⟩,
        ⟨z'', (sb.2 _ Ap.TIz).trans (hk _ _ Ap.TIz Ap.TITO Ap.TIi1 Ap.TIi2 hTI), ⟨ux, uy, (sb.2 _ Ap.TOz).trans TO'⟩, g1.at fun o q => (sb.2 _ Ap.i1z).trans q, g2.at fun o q => (sb.2 _ Ap.i2z).trans q⟩, fun c hcm => ?_⟩
      obtain ⟨o, eo, _⟩ := obs c hcm
      exact (upd_ne (Nat.ne_of_lt (Heap.lt_size eo))).trans (hf c hcm).1 }
end
section
variable {X : Cx} {e e2 : Expr} {ta : TA} {p pos tpos : Pos} {elts : List Expr} {kk : Nat}
def iEnuF (K : PySem.W.Frag) (ta : TA) : TI := fun σ H R => ta σ H fun vs H1 => ∃ a xs, vs = [.ref a] ∧ SqL K H1 a xs ∧ R (ItE K a) H1
theorem pi_enumF (hg : Gl X "enumerate") (hm : X.mg "enumerate" = none) (ha : PA X [e] ta) (hs : starEach [e] X.env = [(false, eval e X.env)]) : PI X (.Tuple elts kk tpos) (.Call (.Name "enumerate" p) [e] [] pos) (iEnuF X.K ta) := by
  refine ⟨fun pn sv sg Hv R Iv h => Call_ (ld_blt Iv hg hm boot_enumerate (PyProof.Rows.callWith_type1 (thn (ha.run pos pn sv sg Hv _ Iv h) fun us s1 ⟨vs, H1, I1, r1, a, xs, ex, hq, q⟩ => ?_) hs rfl))⟩
  subst ex
  obtain ⟨u, rfl, rx⟩ := Vals.one r1
  cases rx
  obtain ⟨zs, rv, pl, _⟩ := I1.list hq
  refine call_enumerate_list pl.isList fun h' he hit _ hk => wpAny_pyIter_enum he ⟨s1.heap.objs.size + 1, [s1.heap.objs.size + 1, s1.heap.objs.size], _, _, H1, rfl, I1.kept (t' := s1.toks) hk, turn_enumF a (s1.heap.objs.size + 1) s1.heap.objs.size, ⟨⟨.none, he⟩, hit, Nat.succ_ne_self _⟩, fun b hb => ?_, q⟩
  have le : s1.heap.objs.size ≤ b := by
    rcases List.mem_cons.mp hb with z | z
    · exact z ▸ Nat.le_add_right _ _
    · exact List.mem_singleton.mp z ▸ Nat.le_refl _
  exact I1.fpOk le (I1.hok.fresh le)
def iZipF (K : PySem.W.Frag) (ta : TA) : TI := fun σ H R => ta σ H fun vs H1 => ∃ a b xs ys, vs = [.ref a, .ref b] ∧ SqL K H1 a xs ∧ SqL K H1 b ys ∧ R (ItZ K a b) H1
theorem pi_zipF (hg : Gl X "zip") (hm : X.mg "zip" = none) (ha : PA X [e, e2] ta) (hs : starEach [e, e2] X.env = (false, eval e X.env) :: starEach [e2] X.env) (hpl : (backTo pos (starEach [e2] X.env)).any (·.1) = false) :
    PI X (.Tuple elts kk tpos) (.Call (.Name "zip" p) [e, e2] [] pos) (iZipF X.K ta) := by
  refine ⟨fun pn sv sg Hv R Iv h => Call_ (ld_blt Iv hg hm PyProof.Rows.boot_zip (PyProof.Rows.callWith_type1 (thn (ha.run pos pn sv sg Hv _ Iv h) fun us s1 ⟨vs, H1, I1, r1, a, b, xs, ys, ex, qx, qy, q⟩ => ?_) hs hpl))⟩
  subst ex
  obtain ⟨u, u2, rfl, rx, ry⟩ := Vals.two r1
  cases rx
  cases ry
  obtain ⟨_, _, p1, _⟩ := I1.list qx
  obtain ⟨_, _, p2, _⟩ := I1.list qy
  refine call_zip_2 p1.isList p2.isList fun h' hz hTI hTO h1 h2 _ hk => wpAny_pyIter_zip hz ⟨s1.heap.objs.size + 4, [s1.heap.objs.size + 4, s1.heap.objs.size + 2, s1.heap.objs.size + 3, s1.heap.objs.size, s1.heap.objs.size + 1], _, _, H1, rfl, I1.kept (t' := s1.toks) hk,
    turn_zipF (PySem.W.ktu_apart s1.heap.objs.size a b p1.lt p2.lt), ⟨hz, hTI, ⟨_, _, hTO⟩, h1, h2⟩, fun c hc => ?_, q⟩
  have le : s1.heap.objs.size ≤ c := by
    have z : c = s1.heap.objs.size + 4 ∨ c = s1.heap.objs.size + 2 ∨ c = s1.heap.objs.size + 3 ∨ c = s1.heap.objs.size ∨ c = s1.heap.objs.size + 1 := by simpa using hc
    rcases z with z | z | z | z | z <;> rw [z] <;> first | exact Nat.le_add_right _ _ | exact Nat.le_refl _
  exact I1.fpOk le (I1.hok.fresh le)
end
end Pi

/-! Pi2: equality of values; objects; the abstract heap over the layer's heap. -/
namespace Pi
open PyProof.Rows PySem L2 PySem.Spec

/-! ### equality -/
mutual
def D.same : D → D → Bool
  | .non, .non => true
  | .bl a, .bl b => decide (a = b)
  | .int a, .int b => decide (a = b)
  | .str a, .str b => decide (a = b)
  | .tup a, .tup b => D.sames a b
  | .frl a, .frl b => D.sames a b
  | .exv c f a, .exv d g b => decide (c = d) && decide (f = g) && D.sames a b
  | .ref a, .ref b => decide (a = b)
  | _, _ => false
def D.sames : List D → List D → Bool
  | [], [] => true
  | a :: r, b :: t => D.same a b && D.sames r t
  | _, _ => false
end
mutual
theorem D.same_self : ∀ a : D, D.same a a = true
  | .non => rfl
  | .bl a => by simp [D.same]
  | .int a => by simp [D.same]
  | .str a => by simp [D.same]
  | .tup a => by rw [D.same]; exact D.sames_self a
  | .frl a => by rw [D.same]; exact D.sames_self a
  | .exv c f a => by rw [D.same, D.sames_self a]; simp
  | .ref a => by simp [D.same]
theorem D.sames_self : ∀ a : List D, D.sames a a = true
  | [] => rfl
  | a :: r => by rw [D.sames, D.same_self a, D.sames_self r]; rfl
end
mutual
theorem D.eq_same : ∀ a b : D, D.same a b = true → a = b
  | .non, b, h => by cases b <;> first | rfl | (simp [D.same] at h)
  | .bl a, b, h => by cases b <;> first | (simp [D.same] at h; done) | (simp [D.same] at h; rw [h])
  | .int a, b, h => by cases b <;> first | (simp [D.same] at h; done) | (simp [D.same] at h; rw [h])
  | .str a, b, h => by cases b <;> first | (simp [D.same] at h; done) | (simp [D.same] at h; rw [h])
  | .ref a, b, h => by cases b <;> first | (simp [D.same] at h; done) | (simp [D.same] at h; rw [h])
  | .tup a, b, h => by
    cases b with
    | tup b => rw [D.same] at h; rw [D.eq_sames a b h]
    | _ => simp [D.same] at h
  | .frl a, b, h => by
    cases b with
    | frl b => rw [D.same] at h; rw [D.eq_sames a b h]
    | _ => simp [D.same] at h
  | .exv c f a, b, h => by
    cases b with
    | exv d g b =>
      rw [D.same, Bool.and_eq_true, Bool.and_eq_true] at h
      rw [D.eq_sames a b h.2, of_decide_eq_true h.1.1, of_decide_eq_true h.1.2]
    | _ => simp [D.same] at h
theorem D.eq_sames : ∀ a b : List D, D.sames a b = true → a = b
  | [], [], _ => rfl
  | a :: r, b :: t, h => by
    rw [D.sames, Bool.and_eq_true] at h
    rw [D.eq_same a b h.1, D.eq_sames r t h.2]
  | [], _ :: _, h => by simp [D.sames] at h
  | _ :: _, [], h => by simp [D.sames] at h
end
instance : DecidableEq D := fun a b => if h : D.same a b = true then .isTrue (D.eq_same a b h) else .isFalse fun e => h (e ▸ D.same_self a)

/-! ### what a value is as data of the library -/
mutual
/-- data; lk tells what stands behind a number -/
def D.py (lk : Nat → Option PyData) : D → Option PyData
  | .non => some .none
  | .bl b => some (.bool b)
  | .int i => some (.int i)
  | .str x => some (.str x)
  | .tup xs => (D.pys lk xs).map .tuple
  | .frl xs => (D.pys lk xs).map .list
  | .exv _ _ _ => none
  | .ref a => lk a
def D.pys (lk : Nat → Option PyData) : List D → Option (List PyData)
  | [] => some []
  | x :: r => match D.py lk x with
    | some d => (match D.pys lk r with
      | some t => some (d :: t)
      | none => none)
    | none => none
end
/-- what the abstract heap tells of a number: lists, n of them one within another -/
def lkH (A : AH) : Nat → Nat → Option PyData
  | 0, _ => none
  | n + 1, a => match A[a]? with
    | some (.lst xs) => (D.pys (lkH A n) xs).map .list
    | _ => none
def pyH (A : AH) (d : D) : Option PyData := D.py (lkH A 8) d

/-! ### keys of dicts and sets -/
mutual
def D.nk : D → Option NestedKey
  | .non => some .none
  | .int i => some (.num i)
  | .str x => some (.text x)
  | .tup xs => (D.nks xs).map .tup
  | _ => none
def D.nks : List D → Option (List NestedKey)
  | [] => some []
  | x :: r => match D.nk x with
    | some d => (match D.nks r with
      | some t => some (d :: t)
      | none => none)
    | none => none
end
mutual
theorem D.nk_inj : ∀ (a b : D) (k : NestedKey), D.nk a = some k → D.nk b = some k → a = b
  | .non, b, k, h, q => by cases b <;> simp [D.nk] at h q <;> (subst h) <;> simp at q ⊢
  | .int i, b, k, h, q => by cases b <;> simp [D.nk] at h q <;> (subst h) <;> simp at q ⊢ <;> exact q.symm
  | .str i, b, k, h, q => by cases b <;> simp [D.nk] at h q <;> (subst h) <;> simp at q ⊢ <;> exact q.symm
  | .bl _, _, _, h, _ => by simp [D.nk] at h
  | .frl _, _, _, h, _ => by simp [D.nk] at h
  | .exv _ _ _, _, _, h, _ => by simp [D.nk] at h
  | .ref _, _, _, h, _ => by simp [D.nk] at h
  | .tup xs, b, k, h, q => by
    rw [D.nk] at h
    obtain ⟨ks, e, rfl⟩ := Option.map_eq_some_iff.mp h
    cases b with
    | tup ys =>
      rw [D.nk] at q
      obtain ⟨ks', e', z⟩ := Option.map_eq_some_iff.mp q
      cases z
      rw [D.nks_inj xs ys _ e e']
    | _ => simp [D.nk] at q
theorem D.nks_inj : ∀ (a b : List D) (k : List NestedKey), D.nks a = some k → D.nks b = some k → a = b
  | [], b, k, h, q => by
    rw [D.nks] at h
    cases h
    cases b with
    | nil => rfl
    | cons y t =>
      rw [D.nks] at q
      cases e1 : D.nk y with
      | none => rw [e1] at q; cases q
      | some d =>
        rw [e1] at q
        cases e2 : D.nks t with
        | none => rw [e2] at q; cases q
        | some l => rw [e2] at q; cases q
  | x :: r, b, k, h, q => by
    rw [D.nks] at h
    cases e1 : D.nk x with
    | none => rw [e1] at h; cases h
    | some d =>
      rw [e1] at h
      cases e2 : D.nks r with
      | none => rw [e2] at h; cases h
      | some l =>
        rw [e2] at h
        cases h
        cases b with
        | nil => rw [D.nks] at q; cases q
        | cons y t =>
          rw [D.nks] at q
          cases e3 : D.nk y with
          | none => rw [e3] at q; cases q
          | some d' =>
            rw [e3] at q
            cases e4 : D.nks t with
            | none => rw [e4] at q; cases q
            | some l' =>
              rw [e4] at q
              cases q
              rw [D.nk_inj x y _ e1 e3, D.nks_inj r t _ e2 e4]
end
/-- the pairs of a dict: look, put, take away -/
def dLook (k : D) : List (D × D) → Option D
  | [] => none
  | (q, v) :: r => if q = k then some v else dLook k r
def dPut (k v : D) (kvs : List (D × D)) : List (D × D) := if (dLook k kvs).isSome = true then kvs.map (fun p => if p.1 = k then (p.1, v) else p) else kvs ++ [(k, v)]
def dDrop (k : D) (kvs : List (D × D)) : List (D × D) := kvs.filter fun p => decide (p.1 ≠ k)

/-! ### attributes -/
def fLook (f : Str) : List (Str × D) → Option D
  | [] => none
  | (g, v) :: r => if f = g then some v else fLook f r
def fPut (f : Str) (v : D) : List (Str × D) → List (Str × D)
  | [] => [(f, v)]
  | (g, x) :: r => if g = f then (g, v) :: r else (g, x) :: fPut f v r
section
variable (K : PySem.W.Frag) (μ : List Addr) (H : Hp)
def FVs : List (Str × D) → List (Str × V) → Prop
  | [], r => r = []
  | (f, d) :: t, r => ∃ v r', r = (f, v) :: r' ∧ DV K μ H d v ∧ FVs t r'
end
section
variable {K : PySem.W.Frag} {μ μ1 : List Addr} {H H1 : Hp}
theorem FVs.le (a : Le μ H μ1 H1) : ∀ {fs : List (Str × D)} {vs : List (Str × V)}, FVs K μ H fs vs → FVs K μ1 H1 fs vs
  | [], _, h => h
  | (f, d) :: t, vs, h => by
    obtain ⟨v, r, e, h1, h2⟩ := h
    exact ⟨v, r, e, h1.le a, FVs.le a h2⟩
theorem FVs.look {f : Str} : ∀ {fs : List (Str × D)} {vs : List (Str × V)}, FVs K μ H fs vs → match fLook f fs with
    | some d => ∃ v, vs.lookup f = some v ∧ DV K μ H d v
    | none => vs.lookup f = none
  | [], vs, h => by
    rw [show vs = [] from h]
    exact rfl
  | (g, d) :: t, vs, h => by
    obtain ⟨v, r, rfl, h1, h2⟩ := h
    have ih := FVs.look (f := f) h2
    unfold fLook
    by_cases e : f = g
    · rw [if_pos e]
      refine ⟨v, ?_, h1⟩
      rw [List.lookup_cons, e]
      simp
    · rw [if_neg e]
      have e2 : ((g, v) :: r).lookup f = r.lookup f := by
        rw [List.lookup_cons, beq_eq_false_iff_ne.mpr e]
      rw [e2]
      exact ih
theorem FVs.put {f : Str} {d : D} {v : V} (hd : DV K μ H d v) : ∀ {fs : List (Str × D)} {vs : List (Str × V)}, FVs K μ H fs vs → FVs K μ H (fPut f d fs) (putF f v vs)
  | [], vs, h => by
    rw [show vs = [] from h]
    exact ⟨v, [], rfl, hd, rfl⟩
  | (g, x) :: t, vs, h => by
    obtain ⟨w, r, rfl, h1, h2⟩ := h
    unfold fPut
    show FVs K μ H _ (if g = f then (g, v) :: r else (g, w) :: putF f v r)
    by_cases e : g = f
    · rw [if_pos e, if_pos e]
      exact ⟨v, r, rfl, hd, h2⟩
    · rw [if_neg e, if_neg e]
      exact ⟨w, _, rfl, h1, FVs.put hd h2⟩
theorem FVs.length : ∀ {fs : List (Str × D)} {vs : List (Str × V)}, FVs K μ H fs vs → vs.length = fs.length
  | [], vs, h => by
    rw [show vs = [] from h]
    rfl
  | (g, x) :: t, vs, h => by
    obtain ⟨w, r, rfl, h1, h2⟩ := h
    rw [List.length_cons, List.length_cons, FVs.length h2]
end

/-! ### objects -/
def dKey : D → Option Key
  | .int i => some (.inl i)
  | .str x => some (.inr x)
  | _ => none
/-- pairs with keys that are ints and texts -/
def KDs (K : PySem.W.Frag) (μ : List Addr) (H : Hp) : List (D × D) → List (Key × V) → Prop
  | [], r => r = []
  | (k, d) :: t, r => ∃ q v r', r = (q, v) :: r' ∧ dKey k = some q ∧ DV K μ H d v ∧ KDs K μ H t r'
/-- pairs with keys that are tuples, as they lie in the dict's table -/
def TDs (K : PySem.W.Frag) (μ : List Addr) (H : Hp) : List (D × D) → List (NestedKey × Addr × Value) → Prop
  | [], r => r = []
  | (k, d) :: t, r => ∃ q a u v r', r = (q, a, u) :: r' ∧ D.nk k = some q ∧ q.depth ≤ 8 ∧ DV K μ H k (.ref a) ∧ DV K μ H d v ∧ RelV v u ∧ TDs K μ H t r'
/-- the object o of the heap is this dict, known to the entry -/
def rawO (a : Addr) (o : Obj) : HO := .ext fun h => h.get? a = some o
section
variable (K : PySem.W.Frag) (P : Program) (w : World) (μ : List Addr) (H : Hp)
/-- the object at a stands for o -/
def OR (a : Addr) : AO → Prop
  | .lst ds => ∃ vs, H a = some (.lst vs) ∧ DVs K μ H ds vs
  | .dic kvs => (∃ ps, H a = some (.dK ps) ∧ KDs K μ H kvs ps) ∨
      ∃ o es ep xs, H a = some (rawO a o) ∧ (a == sysModules) = false ∧ o.ExactDict ∧ o.data = .dict es ep ∧ kvs.length ≤ sizeLine ∧ es.toList = xs.map (entryOfKey (nestedKind P w)) ∧ (xs.map (·.1)).Nodup ∧ TDs K μ H kvs xs
  | .ins c fs => ∃ dx vs, H a = some (.ins (He.ga K c) dx vs) ∧ FVs K μ H fs vs
/-- the abstract heap A is held, its numbers being the addresses μ -/
structure HR (A : AH) : Prop where
  len : μ.length = A.length
  nd : μ.Nodup
  obj : ∀ (n : Nat) (o : AO) (a : Addr), A[n]? = some o → μ[n]? = some a → OR K P w μ H a o
end
section
variable {K : PySem.W.Frag} {P : Program} {w : World} {μ μ1 : List Addr} {H H1 : Hp} {A A1 : AH}
theorem KDs.le (a : Le μ H μ1 H1) : ∀ {fs : List (D × D)} {vs : List (Key × V)}, KDs K μ H fs vs → KDs K μ1 H1 fs vs
  | [], _, h => h
  | (f, d) :: t, vs, h => by
    obtain ⟨q, v, r, e, h0, h1, h2⟩ := h
    exact ⟨q, v, r, e, h0, h1.le a, KDs.le a h2⟩
theorem TDs.le (a : Le μ H μ1 H1) : ∀ {fs : List (D × D)} {vs : List (NestedKey × Addr × Value)}, TDs K μ H fs vs → TDs K μ1 H1 fs vs
  | [], _, h => h
  | (f, d) :: t, vs, h => by
    obtain ⟨q, b, u, v, r, e, h0, hz, h1, h2, h3, h4⟩ := h
    exact ⟨q, b, u, v, r, e, h0, hz, h1.le a, h2.le a, h3, TDs.le a h4⟩
/-- what is at an address that may change -/
theorem OR.some {a : Addr} {o : AO} (h : OR K P w μ H a o) : ∃ u, H a = some u ∧ (∀ xs, u ≠ .tup xs) ∧ (∀ ob x, u ≠ .frz ob x) ∧ ∀ ps, u ≠ .tbl ps := by
  cases o with
  | lst ds =>
    obtain ⟨vs, e, _⟩ := h
    exact ⟨_, e, (fun _ z => nomatch z), (fun _ _ z => nomatch z), (fun _ z => nomatch z)⟩
  | dic kvs =>
    obtain ⟨ps, e, _⟩ | ⟨o, es, ep, xs, e, _⟩ := h
    · exact ⟨_, e, (fun _ z => nomatch z), (fun _ _ z => nomatch z), (fun _ z => nomatch z)⟩
    · exact ⟨_, e, (fun _ z => by unfold rawO at z; cases z), (fun _ _ z => by unfold rawO at z; cases z), (fun _ z => by unfold rawO at z; cases z)⟩
  | ins c fs =>
    obtain ⟨dx, vs, e, _⟩ := h
    exact ⟨_, e, (fun _ z => nomatch z), (fun _ _ z => nomatch z), (fun _ z => nomatch z)⟩
/-- the description goes on where the object stays -/
theorem OR.le {a : Addr} {o : AO} (h : OR K P w μ H a o) (l : Le μ H μ1 H1) (e : H1 a = H a) : OR K P w μ1 H1 a o := by
  cases o with
  | lst ds =>
    obtain ⟨vs, e1, q⟩ := h
    exact ⟨vs, e.trans e1, DVs.le l _ _ q⟩
  | dic kvs =>
    obtain ⟨ps, e1, q⟩ | ⟨o, es, ep, xs, e1, r1, r2, r3, r4, r5, r6, q⟩ := h
    · exact .inl ⟨ps, e.trans e1, q.le l⟩
    · exact .inr ⟨o, es, ep, xs, e.trans e1, r1, r2, r3, r4, r5, r6, q.le l⟩
  | ins c fs =>
    obtain ⟨dx, vs, e1, q⟩ := h
    exact ⟨dx, vs, e.trans e1, q.le l⟩
theorem HR.get (h : HR K P w μ H A) {n : Nat} {o : AO} (e : A[n]? = some o) : ∃ a, μ[n]? = some a ∧ OR K P w μ H a o := by
  have hl := (List.getElem?_eq_some_iff.mp e).1
  rw [← h.len] at hl
  exact ⟨μ[n], List.getElem?_eq_getElem hl, h.obj n o _ e (List.getElem?_eq_getElem hl)⟩
theorem HR.mem (h : HR K P w μ H A) {a : Addr} (m : a ∈ μ) : ∃ u, H a = some u ∧ (∀ xs, u ≠ .tup xs) ∧ (∀ ob x, u ≠ .frz ob x) ∧ ∀ ps, u ≠ .tbl ps := by
  obtain ⟨n, hn⟩ := List.mem_iff_getElem?.mp m
  have hl := (List.getElem?_eq_some_iff.mp hn).1
  rw [h.len] at hl
  exact (h.obj n A[n] a (List.getElem?_eq_getElem hl) hn).some
theorem HR.fresh (h : HR K P w μ H A) {p : Addr} (e : H p = none) : p ∉ μ := fun m => by
  obtain ⟨u, q, _⟩ := h.mem m
  rw [e] at q
  cases q
/-- a new thing is tracked that is not of the abstract heap -/
theorem Le.add {p : Addr} {o : HO} (e : H p = none) : Le μ H μ (upd H p o) :=
  ⟨⟨[], by simp⟩, fun b u h _ _ => by rw [upd_ne (ne_of_none h e)]; exact h, fun b ps h _ => ⟨ps, by rw [upd_ne (ne_of_none h e)]; exact h⟩, fun _ _ _ h => h⟩
theorem HR.keep (h : HR K P w μ H A) (l : Le μ H μ H1) (e : ∀ a ∈ μ, H1 a = H a) : HR K P w μ H1 A :=
  ⟨h.len, h.nd, fun n o a h1 h2 => (h.obj n o a h1 h2).le l (e a (List.mem_of_getElem? h2))⟩
theorem HR.add (h : HR K P w μ H A) {p : Addr} {o : HO} (e : H p = none) : HR K P w μ (upd H p o) A :=
  h.keep (Le.add e) fun a m => upd_ne fun z => h.fresh e (z ▸ m)
/-- a new object -/
theorem Le.new {p : Addr} {o : HO} (e : H p = none) : Le μ H (μ ++ [p]) (upd H p o) :=
  ⟨⟨[p], rfl⟩, fun b u h _ _ => by rw [upd_ne (ne_of_none h e)]; exact h, fun b ps h _ => ⟨ps, by rw [upd_ne (ne_of_none h e)]; exact h⟩, fun b u h n m => by
    rcases List.mem_append.mp m with m | m
    · exact n m
    · rw [List.mem_singleton] at m
      rw [m, e] at h
      cases h⟩
theorem HR.new (h : HR K P w μ H A) {p : Addr} {o : HO} {ao : AO} (e : H p = none) (q : OR K P w (μ ++ [p]) (upd H p o) p ao) : HR K P w (μ ++ [p]) (upd H p o) (A ++ [ao]) := by
  have nm := h.fresh e
  refine ⟨by rw [List.length_append, List.length_append, h.len, List.length_singleton, List.length_singleton], List.nodup_append.mpr ⟨h.nd, List.nodup_cons.mpr ⟨by simp, List.nodup_nil⟩, fun a ha b hb z => ?_⟩, fun n u a h1 h2 => ?_⟩
  · rw [List.mem_singleton] at hb
    rw [z, hb] at ha
    exact nm ha
  · by_cases hn : n < A.length
    · rw [List.getElem?_append_left hn] at h1
      rw [List.getElem?_append_left (by rw [h.len]; exact hn)] at h2
      refine (h.obj n u a h1 h2).le (Le.new e) (upd_ne fun z => nm (z ▸ List.mem_of_getElem? h2))
    · rw [List.getElem?_append_right (by omega)] at h1
      rw [List.getElem?_append_right (by rw [h.len]; omega), h.len] at h2
      cases hk : n - A.length with
      | zero =>
        rw [hk] at h1 h2
        simp at h1 h2
        subst h1 h2
        exact q
      | succ k =>
        rw [hk] at h1
        simp at h1
/-- an object is written -/
theorem ne_mem {p b : Addr} (m : p ∈ μ) (n : b ∉ μ) : b ≠ p := fun z => n (by rw [z]; exact m)
theorem Le.put {p : Addr} {o : HO} (m : p ∈ μ) : Le μ H μ (upd H p o) :=
  ⟨⟨[], by simp⟩, fun b u h n _ => by rw [upd_ne (ne_mem m n)]; exact h, fun b ps h n => ⟨ps, by rw [upd_ne (ne_mem m n)]; exact h⟩, fun _ _ _ h => h⟩
theorem HR.put (h : HR K P w μ H A) {n : Nat} {p : Addr} {o : HO} {ao : AO} (e : μ[n]? = some p) (q : OR K P w μ (upd H p o) p ao) : HR K P w μ (upd H p o) (A.set n ao) := by
  have m : p ∈ μ := List.mem_of_getElem? e
  refine ⟨by rw [List.length_set]; exact h.len, h.nd, fun k u a h1 h2 => ?_⟩
  by_cases hk : k = n
  · subst hk
    rw [e] at h2
    cases h2
    have hl := (List.getElem?_eq_some_iff.mp e).1
    rw [h.len] at hl
    rw [List.getElem?_set_self hl] at h1
    cases h1
    exact q
  · rw [List.getElem?_set_ne (Ne.symm hk)] at h1
    refine (h.obj k u a h1 h2).le (Le.put m) (upd_ne fun z => hk ?_)
    obtain ⟨b1, c1⟩ := List.getElem?_eq_some_iff.mp e
    obtain ⟨b2, c2⟩ := List.getElem?_eq_some_iff.mp h2
    exact (List.getElem_inj h.nd).mp (by rw [c2, c1, z])
end
end Pi

/-! Pi3: readings by values; expressions, tests, arguments. -/
namespace Pi
open PyProof.Rows PySem L2 PySem.Spec

abbrev Fr := List (Option D)
abbrev EM := Fr → M D
abbrev TM := Fr → M Bool
abbrev AM := Fr → M (List D)

section
variable (K : PySem.W.Frag) (P : Program) (w : World)
structure FR (μ : List Addr) (H : Hp) (ρ : Fr) (σ : L2.St) : Prop where
  len : ρ.length = σ.length
  at_ : ∀ (i : Nat) (d : D), ρ[i]? = some (some d) → ∃ v, σ[i]? = some (some v) ∧ DV K μ H d v
/-- an exception's class and fields -/
def ExO (μ : List Addr) (H : Hp) (c : Str) (fs : List (Str × D)) (cls : Value) (dd : Option Addr) : Prop :=
  cls = .ref (He.ga K c) ∧ ((fs = [] ∧ dd = none) ∨ ∃ d vs, dd = some d ∧ d ∉ μ ∧ H d = some (.xd vs) ∧ FVs K μ H fs vs)
/-- what holds behind an outcome -/
def post {α : Type} (W : WX) (σ : L2.St) (μ : List Addr) (H : Hp) (r : R α) (Q : List Addr → Hp → α → AH → Prop) : Prop :=
  match r with
  | .ok a A' => ∀ μ' H', Le μ H μ' H' → HR K P w μ' H' A' → Q μ' H' a A'
  | .ex c fs A' => ∀ μ' H' cls dd, Le μ H μ' H' → HR K P w μ' H' A' → ExO K μ' H' c fs cls dd → W cls dd σ H'
  | .no => False
/-- a value comes -/
def vQ (Q : VK) : List Addr → Hp → D → AH → Prop := fun μ' H' d _ => ∀ v, DV K μ' H' d v → Q v H'
def vsQ (Q : List V → Hp → Prop) : List Addr → Hp → List D → AH → Prop := fun μ' H' ds _ => ∀ vs, DVs K μ' H' ds vs → Q vs H'
def bQ (Q : Bool → Hp → Prop) : List Addr → Hp → Bool → AH → Prop := fun _ H' b _ => Q b H'
def tE (W : WX) (m : EM) : TE := fun σ H Q => ∃ μ A ρ, HR K P w μ H A ∧ FR K μ H ρ σ ∧ post K P w W σ μ H (m ρ A) (vQ K Q)
def tT (W : WX) (m : TM) : TT := fun σ H Q => ∃ μ A ρ, HR K P w μ H A ∧ FR K μ H ρ σ ∧ post K P w W σ μ H (m ρ A) (bQ Q)
def tA (W : WX) (m : AM) : TA := fun σ H Q => ∃ μ A ρ, HR K P w μ H A ∧ FR K μ H ρ σ ∧ post K P w W σ μ H (m ρ A) (vsQ K Q)
end
section
variable {K : PySem.W.Frag} {P : Program} {w : World} {W : WX} {σ : L2.St} {μ μ1 : List Addr} {H H1 : Hp} {ρ : Fr} {A : AH} {α β : Type}
theorem FR.le (f : FR K μ H ρ σ) (a : Le μ H μ1 H1) : FR K μ1 H1 ρ σ := ⟨f.len, fun i d e => by
  obtain ⟨v, h1, h2⟩ := f.at_ i d e
  exact ⟨v, h1, h2.le a⟩⟩
theorem post.le {r : R α} {Q : List Addr → Hp → α → AH → Prop} (h : post K P w W σ μ H r Q) (a : Le μ H μ1 H1) : post K P w W σ μ1 H1 r Q := by
  cases r with
  | ok x A' => exact fun μ' H' l => h μ' H' (a.trans l)
  | ex c fs A' => exact fun μ' H' cls dd l => h μ' H' cls dd (a.trans l)
  | no => exact h
theorem post.imp {r : R α} {Q Q' : List Addr → Hp → α → AH → Prop} (h : post K P w W σ μ H r Q) (q : ∀ μ' H' a A', Le μ H μ' H' → HR K P w μ' H' A' → Q μ' H' a A' → Q' μ' H' a A') : post K P w W σ μ H r Q' := by
  cases r with
  | ok x A' => exact fun μ' H' l r => q μ' H' _ _ l r (h μ' H' l r)
  | ex c fs A' => exact h
  | no => exact h
/-- one behind the other -/
theorem post.bnd {m : M α} {k : α → M β} {Q : List Addr → Hp → β → AH → Prop} (h : post K P w W σ μ H (bnd m k A) Q) :
    post K P w W σ μ H (m A) fun μ1 H1 a A1 => post K P w W σ μ1 H1 (k a A1) Q := by
  unfold Pi.bnd at h
  cases e : m A with
  | ok a A1 =>
    rw [e] at h
    exact fun μ1 H1 l r => h.le l
  | ex c fs A1 =>
    rw [e] at h
    exact h
  | no =>
    rw [e] at h
    exact h
theorem tE_bnd {m : EM} {k : Fr → D → M D} {Q : VK} (h : tE K P w W (fun ρ => bnd (m ρ) (k ρ)) σ H Q) :
    tE K P w W m σ H fun x H1 => ∃ μ A ρ d, HR K P w μ H1 A ∧ FR K μ H1 ρ σ ∧ DV K μ H1 d x ∧ post K P w W σ μ H1 (k ρ d A) (vQ K Q) := by
  obtain ⟨μ, A, ρ, hr, fr, p⟩ := h
  exact ⟨μ, A, ρ, hr, fr, p.bnd.imp fun μ' H' d A' l r q v dv => ⟨μ', A', ρ, d, r, fr.le l, dv, q⟩⟩
theorem tE_bnd2 {m n : EM} {k : D → D → M D} {Q : VK} (h : tE K P w W (fun ρ => bnd (m ρ) fun x => bnd (n ρ) fun y => k x y) σ H Q) :
    tE K P w W m σ H fun x H1 => tE K P w W n σ H1 fun y H2 => ∃ μ A d e, HR K P w μ H2 A ∧ DV K μ H2 d x ∧ DV K μ H2 e y ∧ post K P w W σ μ H2 (k d e A) (vQ K Q) := by
  obtain ⟨μ, A, ρ, hr, fr, p⟩ := h
  refine ⟨μ, A, ρ, hr, fr, p.bnd.imp fun μ' H' d A' l r q v dv => ⟨μ', A', ρ, r, fr.le l, q.bnd.imp fun μ2 H2 e A2 l2 r2 q2 v2 ev => ⟨μ2, A2, d, e, r2, dv.le l2, ev, q2⟩⟩⟩
/-- nothing comes of it but a value -/
theorem vok {d : D} {Q : VK} {v : V} (h : post K P w W σ μ H (.ok d A) (vQ K Q)) (r : HR K P w μ H A) (e : DV K μ H d v) : Q v H := h μ H (Le.refl _ _) r v e
end

/-! ### expressions -/
def eVar (i : Nat) : EM := fun ρ => match ρ[i]? with
  | some (some d) => ret d
  | _ => noM
def eC (d : D) : EM := fun _ => ret d
def eOp (g : D → D → M D) (a b : EM) : EM := fun ρ => bnd (a ρ) fun x => bnd (b ρ) fun y => g x y
def eUn (g : D → M D) (a : EM) : EM := fun ρ => bnd (a ρ) g
def aNil : AM := fun _ => ret []
def aCons (e : EM) (t : AM) : AM := fun ρ => bnd (e ρ) fun x => bnd (t ρ) fun r => ret (x :: r)
def eAll (g : List D → M D) (t : AM) : EM := fun ρ => bnd (t ρ) g
def new (o : AO) : M D := fun A => .ok (.ref A.length) (A ++ [o])
def eTup (t : AM) : EM := eAll (fun ds => if ds.length ≤ sizeLine then ret (.tup ds) else noM) t
def eLst (t : AM) : EM := eAll (fun ds => if ds.length ≤ sizeLine then new (.lst ds) else noM) t

section
variable {X : Cx} {W : WX} {a b e : Expr} {es : List Expr} {ma mb : EM} {t : AM} {pos : Pos}
abbrev DE (X : Cx) (W : WX) (e : Expr) (m : EM) : Prop := PE X e (tE X.K X.prog X.w W m)
abbrev DT (X : Cx) (W : WX) (e : Expr) (m : TM) : Prop := PT X e (tT X.K X.prog X.w W m)
abbrev DA (X : Cx) (W : WX) (es : List Expr) (m : AM) : Prop := PA X es (tA X.K X.prog X.w W m)
theorem PE.of {t t' : TE} (h : PE X e t) (i : ∀ σ H Q, t' σ H Q → t σ H Q) : PE X e t' := ⟨fun pins s σ H Q I q => h.run pins s σ H Q I (i σ H Q q)⟩
theorem PT.of {t t' : TT} (h : PT X e t) (i : ∀ σ H Q, t' σ H Q → t σ H Q) : PT X e t' := ⟨fun pins s σ H Q I q => h.run pins s σ H Q I (i σ H Q q)⟩
theorem PA.of {t t' : TA} (h : PA X es t) (i : ∀ σ H Q, t' σ H Q → t σ H Q) : PA X es t' := ⟨fun pos pins s σ H Q I q => h.run pos pins s σ H Q I (i σ H Q q)⟩
theorem de_var {i : Nat} {x : Str} (hN : X.N[i]? = some x) (hv : Vis X.env.scope x) (hd : (x == ("__debug__" : Str)) = false) (hcd : (x == ("__classdict__" : Str)) = false) : DE X W (.Name x pos) (eVar i) := by
  refine PE.of (pe_var hN hv hd hcd) fun σ H Q h => ?_
  obtain ⟨μ, A, ρ, hr, fr, p⟩ := h
  unfold eVar at p
  cases q : ρ[i]? with
  | none =>
    rw [q] at p
    exact p.elim
  | some o =>
    cases o with
    | none =>
      rw [q] at p
      exact p.elim
    | some d =>
      rw [q] at p
      obtain ⟨v, h1, h2⟩ := fr.at_ i d q
      exact ⟨v, h1, vok p hr h2⟩
theorem de_tC {v : V} {d : D} (h : PE X e (tC v)) (hd : ∀ μ H, DV X.K μ H d v) : DE X W e (eC d) := by
  refine PE.of h fun σ H Q h => ?_
  obtain ⟨μ, A, ρ, hr, fr, p⟩ := h
  exact vok p hr (hd μ H)
theorem de_int {i : Int} {j : Nat} : DE X W (.Constant (.int i) j pos) (eC (.int i)) := de_tC pe_int fun _ _ => rfl
theorem de_bl {b : Bool} {j : Nat} : DE X W (.Constant (.bool b) j pos) (eC (.bl b)) := de_tC pe_bl fun _ _ => rfl
theorem de_non {j : Nat} : DE X W (.Constant .none j pos) (eC .non) := de_tC pe_non fun _ _ => rfl
theorem de_str {x : Str} {j : Nat} : DE X W (.Constant (.str x) j pos) (eC (.str x)) := de_tC pe_str fun _ _ => rfl
/-- a two-place operation, by values -/
def OpD (X : Cx) (f : Value → Value → Sem Value) (g : D → D → M D) : Prop :=
  ∀ (W : WX) (σ' : L2.St), OpR X f fun x y H Q => ∃ μ A d e, HR X.K X.prog X.w μ H A ∧ DV X.K μ H d x ∧ DV X.K μ H e y ∧ post X.K X.prog X.w W σ' μ H (g d e A) (vQ X.K Q)
theorem de_bin {op : Operator} {g : D → D → M D} (ho : OpD X (binaryOp op) g) (ha : DE X W a ma) (hb : DE X W b mb) : DE X W (.BinOp a op b pos) (eOp g ma mb) :=
  ⟨fun pins s σ H Q I h => (pe_op (ho W σ) ha hb).run pins s σ H Q I (tE_bnd2 h)⟩
theorem de_cmp {op : CmpOp} {g : D → D → M D} (ho : OpD X (compareOp op) g) (ha : DE X W a ma) (hb : DE X W b mb) (hm : behindInMarks op b = false) : DE X W (.Compare a [op] [b] pos) (eOp g ma mb) :=
  ⟨fun pins s σ H Q I h => (pe_cmpR (ho W σ) ha hb hm).run pins s σ H Q I (tE_bnd2 h)⟩
def UnD (X : Cx) (f : Value → Sem Value) (g : D → M D) : Prop :=
  ∀ (W : WX) (σ' : L2.St), UnR X f fun x H Q => ∃ μ A d, HR X.K X.prog X.w μ H A ∧ DV X.K μ H d x ∧ post X.K X.prog X.w W σ' μ H (g d A) (vQ X.K Q)
theorem de_un {op : UnaryOp} {g : D → M D} (ho : UnD X (unaryOp op) g) (ha : DE X W a ma) : DE X W (.UnaryOp op a pos) (eUn g ma) :=
  ⟨fun pins s σ H Q I h => (pe_un (ho W σ) ha).run pins s σ H Q I (by
    obtain ⟨μ, A, ρ, hr, fr, p⟩ := h
    exact ⟨μ, A, ρ, hr, fr, p.bnd.imp fun μ' H' d A' l r q v dv => ⟨μ', A', d, r, dv, q⟩⟩)⟩
/-! arguments -/
theorem da_nil : DA X W [] aNil := PA.of pa_nil fun σ H Q h => by
  obtain ⟨μ, A, ρ, hr, fr, p⟩ := h
  exact p μ H (Le.refl _ _) hr [] rfl
theorem da_cons (ha : DE X W e ma) (ht : DA X W es t) (hs : starEach (e :: es) X.env = (false, eval e X.env) :: starEach es X.env) : DA X W (e :: es) (aCons ma t) :=
  PA.of (pa_cons ha ht hs) fun σ H Q h => by
    obtain ⟨μ, A, ρ, hr, fr, p⟩ := h
    refine ⟨μ, A, ρ, hr, fr, p.bnd.imp fun μ' H' d A' l r q v dv => ⟨μ', A', ρ, r, fr.le l, q.bnd.imp fun μ2 H2 ds A2 l2 r2 q2 vs dvs => ?_⟩⟩
    exact q2 μ2 H2 (Le.refl _ _) r2 (v :: vs) ⟨v, vs, rfl, dv.le l2, dvs⟩
/-- a new object of the heap -/
theorem new_post {K : PySem.W.Frag} {P : Program} {w : World} {W : WX} {σ : L2.St} {μ : List Addr} {H : Hp} {A : AH} {o : AO} {u : HO} {Q : VK} {p : Addr} (h : post K P w W σ μ H (new o A) (vQ K Q)) (hr : HR K P w μ H A) (e : H p = none)
    (q : OR K P w (μ ++ [p]) (upd H p u) p o) : Q (.ref p) (upd H p u) :=
  h (μ ++ [p]) (upd H p u) (Le.new e) (hr.new e q) (.ref p) ⟨p, rfl, by rw [← hr.len, List.getElem?_append_right (Nat.le_refl _)]; simp⟩
theorem new_lst {K : PySem.W.Frag} {P : Program} {w : World} {W : WX} {σ : L2.St} {μ : List Addr} {H : Hp} {A : AH} {ds : List D} {vs : List V} {Q : VK} {p : Addr} (h : post K P w W σ μ H (new (.lst ds) A) (vQ K Q)) (hr : HR K P w μ H A) (e : H p = none)
    (q : DVs K μ H ds vs) : Q (.ref p) (upd H p (.lst vs)) := new_post h hr e ⟨vs, upd_same, q.le (Le.new e)⟩
/-- a new tuple -/
theorem new_tup {K : PySem.W.Frag} {P : Program} {w : World} {W : WX} {σ : L2.St} {μ : List Addr} {H : Hp} {A : AH} {ds : List D} {vs : List V} {Q : VK} (h : post K P w W σ μ H (.ok (.tup ds) A) (vQ K Q)) (hr : HR K P w μ H A)
    (q : DVs K μ H ds vs) : NewT H Q vs := fun p o e d =>
  h μ (upd H p (ftp o vs)) (Le.add e) (hr.add e) (.ref p) ⟨p, vs, rfl, .inl ⟨hr.fresh e, o, d, upd_same⟩, q.le (Le.add e)⟩
theorem ifno {α : Type} {K : PySem.W.Frag} {P : Program} {w : World} {W : WX} {σ : L2.St} {μ : List Addr} {H : Hp} {A : AH} {c : Prop} [Decidable c] {m : M α} {Q : List Addr → Hp → α → AH → Prop} (h : post K P w W σ μ H ((if c then m else noM) A) Q) : c ∧ post K P w W σ μ H (m A) Q := by
  by_cases hc : c
  · rw [if_pos hc] at h
    exact ⟨hc, h⟩
  · rw [if_neg hc] at h
    exact h.elim
theorem de_tup {k : Nat} (h : DA X W es t) : DE X W (.Tuple es k pos) (eTup t) := PE.of (pe_tupF h) fun σ H Q h => by
  obtain ⟨μ, A, ρ, hr, fr, p⟩ := h
  refine ⟨μ, A, ρ, hr, fr, p.bnd.imp fun μ' H' ds A' l r q vs dvs => ?_⟩
  obtain ⟨hl, q⟩ := ifno q
  exact ⟨by rw [dvs.length]; exact hl, new_tup q r dvs⟩
theorem de_lst (h : DA X W es t) : DE X W (.List es pos) (eLst t) := PE.of (pe_lst h) fun σ H Q h => by
  obtain ⟨μ, A, ρ, hr, fr, p⟩ := h
  refine ⟨μ, A, ρ, hr, fr, p.bnd.imp fun μ' H' ds A' l r q vs dvs => ?_⟩
  obtain ⟨hl, q⟩ := ifno q
  exact ⟨by rw [dvs.length]; exact hl, fun p hp => new_lst q r hp dvs⟩
end

/-! ### tests -/
def tTrue (m : EM) (tr : AH → D → Option Bool) : TM := fun ρ => bnd (m ρ) fun d A => match tr A d with
  | some b => .ok b A
  | none => .no
/-- a value's truth -/
def truD (A : AH) : D → Option Bool
  | .non => some false
  | .bl b => some b
  | .int i => some (i != 0)
  | .str y => if y.length ≤ sizeLine then some ((y.length : Int) != 0) else none
  | .tup xs => some (!xs.isEmpty)
  | .frl xs => some (!xs.isEmpty)
  | .exv _ _ _ => none
  | .ref n => match A[n]? with
    | some (.lst xs) => some (!xs.isEmpty)
    | _ => none
def tOf (m : EM) : TM := tTrue m truD
def tAnd (a b : TM) : TM := fun ρ => bnd (a ρ) fun c => if c = true then b ρ else ret false
def tOr (a b : TM) : TM := fun ρ => bnd (a ρ) fun c => if c = true then ret true else b ρ
def tNot (a : TM) : TM := fun ρ => bnd (a ρ) fun c => ret (!c)
def eIf (c : TM) (a b : EM) : EM := fun ρ => bnd (c ρ) fun c => if c = true then a ρ else b ρ
/-- a and b, a or b as values; not a -/
def eAnd (a b : EM) : EM := fun ρ => bnd (a ρ) fun x A => match truD A x with
  | some c => (if c = true then b ρ else ret x) A
  | none => .no
def eOr (a b : EM) : EM := fun ρ => bnd (a ρ) fun x A => match truD A x with
  | some c => (if c = true then ret x else b ρ) A
  | none => .no
def eNot (a : EM) : EM := fun ρ => bnd (a ρ) fun x A => match truD A x with
  | some c => .ok (.bl (!c)) A
  | none => .no
end Pi

/-! Pi4: operations by values: numbers, texts, tuples, lists; ==, is, in; places and slices; truth, tests. -/
namespace Pi
open PyProof.Rows PySem L2 PySem.Spec

/-! ### values as the library's data -/
section
variable {K : PySem.W.Frag} {P : Program} {w : World} {μ : List Addr} {H : Hp} {A : AH}
mutual
theorem py_dp {lk : Nat → Option PyData} (hl : ∀ n q, lk n = some q → ∀ a, μ[n]? = some a → Dp K H (.ref a) q) : ∀ (d : D) (v : V) (p : PyData), DV K μ H d v → D.py lk d = some p → Dp K H v p
  | .non, v, p, h, e => by
    rw [show v = .non from h]
    simp only [D.py, Option.some.injEq] at e
    rw [← e]
    exact .non
  | .bl b, v, p, h, e => by
    rw [show v = .bl b from h]
    simp only [D.py, Option.some.injEq] at e
    rw [← e]
    exact .bl b
  | .int b, v, p, h, e => by
    rw [show v = .int b from h]
    simp only [D.py, Option.some.injEq] at e
    rw [← e]
    exact .int b
  | .str b, v, p, h, e => by
    rw [show v = .str b from h]
    simp only [D.py, Option.some.injEq] at e
    rw [← e]
    exact .str b
  | .tup ds, v, p, h, e => by
    obtain ⟨a, vs, rfl, t, q⟩ := h
    rw [D.py] at e
    obtain ⟨ps, e', rfl⟩ := Option.map_eq_some_iff.mp e
    exact .tup t.sq (pys_dp hl ds vs ps q e')
  | .frl ds, v, p, h, e => by
    obtain ⟨a, vs, rfl, t, q⟩ := h
    rw [D.py] at e
    obtain ⟨ps, e', rfl⟩ := Option.map_eq_some_iff.mp e
    exact .lst t.sq (pys_dp hl ds vs ps q e')
  | .ref n, v, p, h, e => by
    obtain ⟨a, rfl, q⟩ := h
    exact hl n p e a q
theorem pys_dp {lk : Nat → Option PyData} (hl : ∀ n q, lk n = some q → ∀ a, μ[n]? = some a → Dp K H (.ref a) q) : ∀ (ds : List D) (vs : List V) (ps : List PyData), DVs K μ H ds vs → D.pys lk ds = some ps → DpAll K H vs ps
  | [], vs, ps, h, e => by
    rw [show vs = [] from h]
    rw [D.pys] at e
    cases e
    exact .nil
  | d :: ds, vs, ps, h, e => by
    obtain ⟨v, r, rfl, h1, h2⟩ := h
    rw [D.pys] at e
    cases e1 : D.py lk d with
    | none => rw [e1] at e; cases e
    | some p =>
      rw [e1] at e
      cases e2 : D.pys lk ds with
      | none => rw [e2] at e; cases e
      | some t =>
        rw [e2] at e
        cases e
        exact .cons (py_dp hl d v p h1 e1) (pys_dp hl ds r t h2 e2)
end
theorem lk_dp (hr : HR K P w μ H A) : ∀ (k n : Nat) (q : PyData), lkH A k n = some q → ∀ a, μ[n]? = some a → Dp K H (.ref a) q
  | 0, n, q, e, _, _ => by cases e
  | k + 1, n, q, e, a, ha => by
    unfold lkH at e
    cases e1 : A[n]? with
    | none => rw [e1] at e; cases e
    | some o =>
      rw [e1] at e
      cases o with
      | lst xs =>
        obtain ⟨ps, e', rfl⟩ := Option.map_eq_some_iff.mp e
        obtain ⟨vs, q1, q2⟩ := hr.obj n _ a e1 ha
        exact .lst (.of q1) (pys_dp (lk_dp hr k) xs vs ps q2 e')
      | _ => cases e
theorem pyH_dp (hr : HR K P w μ H A) {d : D} {v : V} {p : PyData} (h : DV K μ H d v) (e : pyH A d = some p) : Dp K H v p := py_dp (lk_dp hr 8) d v p h e
theorem HR.lst (hr : HR K P w μ H A) {n : Nat} {a : Addr} {xs : List D} (e : A[n]? = some (.lst xs)) (m : μ[n]? = some a) : ∃ vs, H a = some (.lst vs) ∧ DVs K μ H xs vs := hr.obj n _ a e m
end

/-! ### numbers -/
def b2d (b : Bool) : D := .bl b
def addD : D → D → M D
  | .int i, .int j => ret (.int (i + j))
  | .str x, .str y => if x.length + y.length ≤ sizeLine then ret (.str (x ++ y)) else noM
  | .tup xs, .tup ys => if xs.length + ys.length ≤ sizeLine then ret (.tup (xs ++ ys)) else noM
  | .ref a, .ref b => fun A => match A[a]?, A[b]? with
    | some (.lst xs), some (.lst ys) => (if xs.length + ys.length ≤ sizeLine then new (.lst (xs ++ ys)) else noM) A
    | _, _ => .no
  | _, _ => noM
def subD : D → D → M D
  | .int i, .int j => ret (.int (i - j))
  | _, _ => noM
def small64 (i : Int) : Prop := -(2 ^ 64) < i ∧ i < 2 ^ 64
instance (i : Int) : Decidable (small64 i) := inferInstanceAs (Decidable (_ ∧ _))
def mulD : D → D → M D
  | .int i, .int j => if small64 i ∨ small64 j then ret (.int (i * j)) else noM
  | .ref a, .int k => fun A => match A[a]? with
    | some (.lst xs) => (if -(2 ^ 63) ≤ k ∧ k < 2 ^ 63 ∧ xs.length * k.toNat ≤ sizeLine then new (.lst (List.replicate k.toNat xs).flatten) else noM) A
    | _ => .no
  | _, _ => noM
def fdivD : D → D → M D
  | .int i, .int j => if 0 < j ∧ j < 1073741824 then ret (.int (i / j)) else noM
  | _, _ => noM
def modD : D → D → M D
  | .int i, .int j => if 0 < j then ret (.int (i % j)) else noM
  | _, _ => noM
def powD : D → D → M D
  | .int i, .int j => if 0 ≤ j ∧ j ≤ 1000000 ∧ i.natAbs < 2 ^ 64 then ret (.int (i ^ j.toNat)) else noM
  | _, _ => noM
def negD : D → M D
  | .int i => ret (.int (-i))
  | _ => noM
def ltD : D → D → M D
  | .int i, .int j => ret (.bl (decide (i < j)))
  | _, _ => noM
def leD : D → D → M D
  | .int i, .int j => ret (.bl (decide (i ≤ j)))
  | _, _ => noM
def gtD : D → D → M D
  | .int i, .int j => ret (.bl (decide (j < i)))
  | _, _ => noM
def geD : D → D → M D
  | .int i, .int j => ret (.bl (decide (j ≤ i)))
  | _, _ => noM
def eqB (A : AH) (x y : D) : Option Bool := match pyH A x, pyH A y with
  | some d, some e => if SeqAt.shaped d = true ∧ SeqAt.shaped e = true then some (PyData.eqv d e) else none
  | _, _ => none
def eqD (x y : D) : M D := fun A => match eqB A x y with
  | some b => .ok (.bl b) A
  | none => .no
def neD (x y : D) : M D := fun A => match eqB A x y with
  | some b => .ok (.bl (!b)) A
  | none => .no
/-- is: None and truth values alone -/
def isNon : D → Bool
  | .non => true
  | _ => false
def isBl (b : Bool) : D → Bool
  | .bl c => c == b
  | _ => false
def isD : D → D → M D
  | x, .non => ret (.bl (isNon x))
  | x, .bl b => ret (.bl (isBl b x))
  | _, _ => noM
def isnD : D → D → M D
  | x, .non => ret (.bl (!isNon x))
  | x, .bl b => ret (.bl (!isBl b x))
  | _, _ => noM
section
variable {X : Cx}
theorem HRlist {X : Cx} {μ : List Addr} {H : Hp} {A : AH} {n : Nat} {x : V} {xs : List D} (hr : HR X.K X.prog X.w μ H A) (h : DV X.K μ H (.ref n) x) (e : A[n]? = some (.lst xs)) : ∃ a vs, x = .ref a ∧ μ[n]? = some a ∧ H a = some (.lst vs) ∧ DVs X.K μ H xs vs := by
  obtain ⟨a, rfl, m⟩ := h
  obtain ⟨vs, q1, q2⟩ := hr.lst e m
  exact ⟨a, vs, rfl, m, q1, q2⟩
theorem od_add : OpD X (binaryOp .Add) addD := by
  intro W σ' pins s σ H x y v u Q I rx ry h
  obtain ⟨μ, A, d, e, hr, hd, he, p⟩ := h
  unfold addD at p
  split at p
  · obtain rfl := hd
    obtain rfl := he
    exact op_add pins s σ H _ _ v u Q I rx ry ⟨_, _, rfl, rfl, vok p hr rfl⟩
  · obtain rfl := hd
    obtain rfl := he
    obtain ⟨hz, p⟩ := ifno p
    exact op_add_str pins s σ H _ _ v u Q I rx ry ⟨_, _, rfl, rfl, hz, vok p hr rfl⟩
  · rename_i xs ys
    obtain ⟨hz, p⟩ := ifno p
    obtain ⟨a, vs, rfl, t1, q1⟩ := id hd
    obtain ⟨b, ws, rfl, t2, q2⟩ := id he
    refine op_catF pins s σ H _ _ v u Q I rx ry ⟨a, b, vs, ws, rfl, rfl, t1.sq, t2.sq, by rw [q1.length, q2.length]; exact hz, fun e1 => ?_, fun _ e2 => ?_, fun _ _ => new_tup p hr (q1.app q2)⟩
    · have e3 : xs = [] := List.length_eq_zero_iff.mp (by rw [← q1.length, e1]; rfl)
      rw [e3, List.nil_append] at p
      exact vok p hr he
    · have e3 : ys = [] := List.length_eq_zero_iff.mp (by rw [← q2.length, e2]; rfl)
      rw [e3, List.append_nil] at p
      exact vok p hr hd
  · rename_i n m
    cases e1 : A[n]? with
    | none => rw [e1] at p; exact p.elim
    | some o1 =>
      rw [e1] at p
      cases o1 with
      | lst xs =>
        cases e2 : A[m]? with
        | none => rw [e2] at p; exact p.elim
        | some o2 =>
          rw [e2] at p
          cases o2 with
          | lst ys =>
            obtain ⟨hz, p⟩ := ifno p
            obtain ⟨a, vs, rfl, m1, h1, q1⟩ := HRlist hr hd e1
            obtain ⟨b, ws, rfl, m2, h2, q2⟩ := HRlist hr he e2
            exact op_cat pins s σ H _ _ v u Q I rx ry ⟨a, b, vs, ws, rfl, rfl, h1, h2, by rw [q1.length, q2.length]; exact hz, fun p' hp => new_lst p hr hp (q1.app q2)⟩
          | _ => exact p.elim
      | _ => exact p.elim
  · exact p.elim
theorem od_sub : OpD X (binaryOp .Sub) subD := by
  intro W σ' pins s σ H x y v u Q I rx ry h
  obtain ⟨μ, A, d, e, hr, hd, he, p⟩ := h
  unfold subD at p
  split at p
  · obtain rfl := hd
    obtain rfl := he
    exact op_sub pins s σ H _ _ v u Q I rx ry ⟨_, _, rfl, rfl, vok p hr rfl⟩
  · exact p.elim
theorem rep_dvs {K : PySem.W.Frag} {μ : List Addr} {H : Hp} {xs : List D} {vs : List V} (h : DVs K μ H xs vs) : ∀ k : Nat, DVs K μ H (List.replicate k xs).flatten (List.replicate k vs).flatten
  | 0 => rfl
  | k + 1 => by
    rw [List.replicate_succ, List.replicate_succ, List.flatten_cons, List.flatten_cons]
    exact h.app (rep_dvs h k)
theorem od_mul : OpD X (binaryOp .Mult) mulD := by
  intro W σ' pins s σ H x y v u Q I rx ry h
  obtain ⟨μ, A, d, e, hr, hd, he, p⟩ := h
  unfold mulD at p
  split at p
  · obtain rfl := hd
    obtain rfl := he
    obtain ⟨hz, p⟩ := ifno p
    exact op_mul pins s σ H _ _ v u Q I rx ry ⟨_, _, rfl, rfl, hz, vok p hr rfl⟩
  · rename_i n k
    obtain rfl := he
    cases e1 : A[n]? with
    | none => rw [e1] at p; exact p.elim
    | some o1 =>
      rw [e1] at p
      cases o1 with
      | lst xs =>
        obtain ⟨⟨h1, h2, h3⟩, p⟩ := ifno p
        obtain ⟨a, vs, rfl, m1, hl, q1⟩ := HRlist hr hd e1
        exact op_rep pins s σ H _ _ v u Q I rx ry ⟨a, k, vs, rfl, rfl, hl, h1, h2, by rw [q1.length]; exact h3, fun p' hp => new_lst p hr hp (rep_dvs q1 _)⟩
      | _ => exact p.elim
  · exact p.elim
theorem od_fdiv : OpD X (binaryOp .FloorDiv) fdivD := by
  intro W σ' pins s σ H x y v u Q I rx ry h
  obtain ⟨μ, A, d, e, hr, hd, he, p⟩ := h
  unfold fdivD at p
  split at p
  · obtain rfl := hd
    obtain rfl := he
    obtain ⟨hz, p⟩ := ifno p
    exact op_fdiv pins s σ H _ _ v u Q I rx ry ⟨_, _, rfl, rfl, hz, vok p hr rfl⟩
  · exact p.elim
theorem od_mod : OpD X (binaryOp .Mod) modD := by
  intro W σ' pins s σ H x y v u Q I rx ry h
  obtain ⟨μ, A, d, e, hr, hd, he, p⟩ := h
  unfold modD at p
  split at p
  · obtain rfl := hd
    obtain rfl := he
    obtain ⟨hz, p⟩ := ifno p
    exact op_mod pins s σ H _ _ v u Q I rx ry ⟨_, _, rfl, rfl, hz, vok p hr rfl⟩
  · exact p.elim
theorem od_pow : OpD X (binaryOp .Pow) powD := by
  intro W σ' pins s σ H x y v u Q I rx ry h
  obtain ⟨μ, A, d, e, hr, hd, he, p⟩ := h
  unfold powD at p
  split at p
  · obtain rfl := hd
    obtain rfl := he
    obtain ⟨hz, p⟩ := ifno p
    exact op_pow pins s σ H _ _ v u Q I rx ry ⟨_, _, rfl, rfl, hz, vok p hr rfl⟩
  · exact p.elim
theorem ud_neg : UnD X (unaryOp .USub) negD := by
  intro W σ' pins s σ H x v Q I rx h
  obtain ⟨μ, A, d, hr, hd, p⟩ := h
  unfold negD at p
  split at p
  · obtain rfl := hd
    exact un_neg pins s σ H _ v Q I rx ⟨_, rfl, vok p hr rfl⟩
  · exact p.elim
theorem od_lt : OpD X (compareOp .Lt) ltD := by
  intro W σ' pins s σ H x y v u Q I rx ry h
  obtain ⟨μ, A, d, e, hr, hd, he, p⟩ := h
  unfold ltD at p
  split at p
  · obtain rfl := hd
    obtain rfl := he
    exact op_lt pins s σ H _ _ v u Q I rx ry ⟨_, _, rfl, rfl, vok p hr rfl⟩
  · exact p.elim
theorem od_le : OpD X (compareOp .LtE) leD := by
  intro W σ' pins s σ H x y v u Q I rx ry h
  obtain ⟨μ, A, d, e, hr, hd, he, p⟩ := h
  unfold leD at p
  split at p
  · obtain rfl := hd
    obtain rfl := he
    exact op_le pins s σ H _ _ v u Q I rx ry ⟨_, _, rfl, rfl, vok p hr rfl⟩
  · exact p.elim
theorem od_gt : OpD X (compareOp .Gt) gtD := by
  intro W σ' pins s σ H x y v u Q I rx ry h
  obtain ⟨μ, A, d, e, hr, hd, he, p⟩ := h
  unfold gtD at p
  split at p
  · obtain rfl := hd
    obtain rfl := he
    exact op_gt pins s σ H _ _ v u Q I rx ry ⟨_, _, rfl, rfl, vok p hr rfl⟩
  · exact p.elim
theorem od_ge : OpD X (compareOp .GtE) geD := by
  intro W σ' pins s σ H x y v u Q I rx ry h
  obtain ⟨μ, A, d, e, hr, hd, he, p⟩ := h
  unfold geD at p
  split at p
  · obtain rfl := hd
    obtain rfl := he
    exact op_ge pins s σ H _ _ v u Q I rx ry ⟨_, _, rfl, rfl, vok p hr rfl⟩
  · exact p.elim
theorem eqB_dp {X : Cx} {μ : List Addr} {H : Hp} {A : AH} {x y : V} {d e : D} {b : Bool} (hr : HR X.K X.prog X.w μ H A) (hd : DV X.K μ H d x) (he : DV X.K μ H e y) (h : eqB A d e = some b) :
    ∃ p q, Dp X.K H x p ∧ Dp X.K H y q ∧ SeqAt.shaped p = true ∧ SeqAt.shaped q = true ∧ b = PyData.eqv p q := by
  unfold eqB at h
  cases e1 : pyH A d with
  | none => rw [e1] at h; cases h
  | some p =>
    rw [e1] at h
    cases e2 : pyH A e with
    | none => rw [e2] at h; cases h
    | some q =>
      rw [e2] at h
      have h : (if SeqAt.shaped p = true ∧ SeqAt.shaped q = true then some (PyData.eqv p q) else none) = some b := h
      by_cases c : SeqAt.shaped p = true ∧ SeqAt.shaped q = true
      · rw [if_pos c] at h
        exact ⟨p, q, pyH_dp hr hd e1, pyH_dp hr he e2, c.1, c.2, (Option.some.inj h).symm⟩
      · rw [if_neg c] at h
        cases h
theorem od_eq (hu : X.A.units + 64 < cLine) : OpD X (compareOp .Eq) eqD := by
  intro W σ' pins s σ H x y v u Q I rx ry h
  obtain ⟨μ, A, d, e, hr, hd, he, p⟩ := h
  unfold eqD at p
  split at p
  · rename_i b hb
    obtain ⟨p1, q1, h1, h2, h3, h4, rfl⟩ := eqB_dp hr hd he hb
    exact op_eqD hu pins s σ H _ _ v u Q I rx ry ⟨p1, q1, h1, h2, h3, h4, vok p hr rfl⟩
  · exact p.elim
theorem od_ne (hu : X.A.units + 64 < cLine) : OpD X (compareOp .NotEq) neD := by
  intro W σ' pins s σ H x y v u Q I rx ry h
  obtain ⟨μ, A, d, e, hr, hd, he, p⟩ := h
  unfold neD at p
  split at p
  · rename_i b hb
    obtain ⟨p1, q1, h1, h2, h3, h4, rfl⟩ := eqB_dp hr hd he hb
    exact op_neD hu pins s σ H _ _ v u Q I rx ry ⟨p1, q1, h1, h2, h3, h4, vok p hr rfl⟩
  · exact p.elim
/-- a value as the machine has it: which kind -/
theorem dv_non {K : PySem.W.Frag} {μ : List Addr} {H : Hp} {d : D} {x : V} (h : DV K μ H d x) : decide (x = .non) = isNon d := by
  cases d with
  | non => obtain rfl := h; rfl
  | bl b => obtain rfl := h; rfl
  | int b => obtain rfl := h; rfl
  | str b => obtain rfl := h; rfl
  | tup b => obtain ⟨_, _, rfl, _⟩ := h; rfl
  | frl b => obtain ⟨_, _, rfl, _⟩ := h; rfl
  | exv a b c => obtain ⟨_, _, rfl, _⟩ := h; rfl
  | ref b => obtain ⟨_, rfl, _⟩ := h; rfl
theorem dv_bl {K : PySem.W.Frag} {μ : List Addr} {H : Hp} {d : D} {x : V} {u : Value} {b : Bool} (h : DV K μ H d x) (r : RelV x u) : PySem.plainIs u (.bool b) = true ∧ (u == Value.bool b) = isBl b d := by
  cases d with
  | non => obtain rfl := h; cases r; exact ⟨rfl, rfl⟩
  | bl c =>
    obtain rfl := h
    cases r
    refine ⟨rfl, ?_⟩
    cases c <;> cases b <;> rfl
  | int b => obtain rfl := h; obtain ⟨t, rfl⟩ := r; exact ⟨rfl, rfl⟩
  | str b => obtain rfl := h; obtain ⟨t, rfl⟩ := r; exact ⟨rfl, rfl⟩
  | tup b => obtain ⟨_, _, rfl, _⟩ := h; cases r; exact ⟨rfl, rfl⟩
  | frl b => obtain ⟨_, _, rfl, _⟩ := h; cases r; exact ⟨rfl, rfl⟩
  | exv a b c => obtain ⟨_, _, rfl, _⟩ := h; cases r; exact ⟨rfl, rfl⟩
  | ref b => obtain ⟨_, rfl, _⟩ := h; cases r; exact ⟨rfl, rfl⟩
theorem od_is : OpD X (compareOp .Is) isD := by
  intro W σ' pins s σ H x y v u Q I rx ry h
  obtain ⟨μ, A, d, e, hr, hd, he, p⟩ := h
  unfold isD at p
  split at p
  · obtain rfl := he
    exact op_isN pins s σ H _ _ v u Q I rx ry ⟨rfl, vok p hr (by rw [dv_non hd]; rfl)⟩
  · obtain rfl := he
    cases ry
    obtain ⟨h1, h2⟩ := dv_bl hd rx
    exact PySem.wpAny_is_plain h1 (by rw [h2]; exact ⟨.bl _, H, I, rfl, vok p hr rfl⟩)
  · exact p.elim
theorem od_isn : OpD X (compareOp .IsNot) isnD := by
  intro W σ' pins s σ H x y v u Q I rx ry h
  obtain ⟨μ, A, d, e, hr, hd, he, p⟩ := h
  unfold isnD at p
  split at p
  · obtain rfl := he
    exact op_notN pins s σ H _ _ v u Q I rx ry ⟨rfl, vok p hr (by rw [dv_non hd]; rfl)⟩
  · obtain rfl := he
    cases ry
    obtain ⟨h1, h2⟩ := dv_bl hd rx
    exact PySem.wpAny_isNot_plain h1 (by rw [h2]; exact ⟨.bl _, H, I, rfl, vok p hr rfl⟩)
  · exact p.elim
end

/-! ### truth and tests -/
section
variable {X : Cx} {W : WX} {a b c e : Expr} {ma mb : EM} {ta tb : TM} {pos : Pos}
theorem tru_d {μ : List Addr} {H : Hp} {A : AH} {d : D} {x : V} {k : Bool} (hr : HR X.K X.prog X.w μ H A) (hd : DV X.K μ H d x) (h : truD A d = some k) : TruV X.K x H k := by
  cases d with
  | non => obtain rfl := hd; exact (Option.some.inj h).symm
  | bl b => obtain rfl := hd; exact (Option.some.inj h).symm
  | int i => obtain rfl := hd; exact (Option.some.inj h).symm
  | str y =>
    obtain rfl := hd
    have h : (if y.length ≤ sizeLine then some ((y.length : Int) != 0) else none) = some k := h
    by_cases z : y.length ≤ sizeLine
    · rw [if_pos z] at h
      exact ⟨z, (Option.some.inj h).symm⟩
    · rw [if_neg z] at h
      cases h
  | tup xs =>
    obtain ⟨p, vs, rfl, t, q⟩ := hd
    refine .inr (.inl ⟨vs, t.sq, ?_⟩)
    rw [← Option.some.inj h]
    have := q.length
    cases vs <;> cases xs <;> first | rfl | (simp at this)
  | frl xs =>
    obtain ⟨p, vs, rfl, t, q⟩ := hd
    refine .inl ⟨vs, t.sq, ?_⟩
    rw [← Option.some.inj h]
    have := q.length
    cases vs <;> cases xs <;> first | rfl | (simp at this)
  | exv _ _ _ => cases h
  | ref n =>
    have h : (match A[n]? with
    | some (.lst xs) => some (!xs.isEmpty)
    | _ => none) = some k := h
    cases e1 : A[n]? with
    | none => rw [e1] at h; cases h
    | some o =>
      rw [e1] at h
      cases o with
      | lst xs =>
        obtain ⟨p, vs, rfl, m, hl, q⟩ := HRlist hr hd e1
        refine .inl ⟨vs, .of hl, ?_⟩
        rw [← Option.some.inj h]
        have := q.length
        cases vs <;> cases xs <;> first | rfl | (simp at this)
      | _ => cases h
end
end Pi

/-! Pi5: dicts: keys, tables, the two ways they lie; d[k], d.get, d[k] = v, d.pop, in. -/
namespace Pi
open PyProof.Rows PySem L2 PySem.Spec

def tupSort : Option NestedKey → Nat
  | some q => if q.depth ≤ 8 then 2 else 0
  | none => 0
/-- which sort of key: 1 a number or text, 2 a tuple, 0 none -/
def keySort : D → Nat
  | .int _ => 1
  | .str _ => 1
  | .tup xs => tupSort (D.nk (.tup xs))
  | _ => 0
theorem tupSort_cases (o : Option NestedKey) : (tupSort o = 0) ∨ (tupSort o = 2 ∧ ∃ q, o = some q ∧ q.depth ≤ 8) := by
  cases o with
  | none => exact .inl rfl
  | some q =>
    unfold tupSort
    by_cases h : q.depth ≤ 8
    · exact .inr ⟨if_pos h, q, rfl, h⟩
    · exact .inl (if_neg h)
/-- a key that goes with the keys of a dict -/
def dOk (k : D) (kvs : List (D × D)) : Bool := keySort k != 0 && kvs.all fun p => keySort p.1 == keySort k

section
variable {X : Cx} {pins : List (Addr × Obj)} {σ : L2.St} {H : Hp} {s : Shared} {μ : List Addr} {A : AH}
mutual
theorem nk_is (I : Inv X pins σ H s) : ∀ (d : D) (v : V) (u : Value) (q : NestedKey), DV X.K μ H d v → RelV v u → D.nk d = some q → NestedIs s.heap q u
  | .non, v, u, q, h, r, e => by
    rw [show v = .non from h] at r
    cases r
    cases e
    exact .none
  | .int i, v, u, q, h, r, e => by
    rw [show v = .int i from h] at r
    obtain ⟨t, rfl⟩ := r
    cases e
    exact .int i t
  | .str i, v, u, q, h, r, e => by
    rw [show v = .str i from h] at r
    obtain ⟨t, rfl⟩ := r
    cases e
    exact .text i t
  | .bl _, _, _, _, _, _, e => by simp [D.nk] at e
  | .frl _, _, _, _, _, _, e => by simp [D.nk] at e
  | .ref _, _, _, _, _, _, e => by simp [D.nk] at e
  | .tup ds, v, u, q, h, r, e => by
    obtain ⟨p, vs, rfl, t, hd⟩ := h
    cases r
    rw [D.nk] at e
    obtain ⟨qs, e', rfl⟩ := Option.map_eq_some_iff.mp e
    obtain ⟨its, rv, ⟨o, ho, hc, n, hdt⟩, _⟩ := I.tuple t.sq
    exact .tup ho hc hdt (nks_is I ds vs _ qs hd (by simpa using rv) e')
theorem nks_is (I : Inv X pins σ H s) : ∀ (ds : List D) (vs : List V) (us : List Value) (qs : List NestedKey), DVs X.K μ H ds vs → Vals vs us → D.nks ds = some qs → NestedAll s.heap qs us
  | [], vs, us, qs, h, r, e => by
    rw [show vs = [] from h] at r
    cases r
    cases e
    exact .nil
  | d :: ds, vs, us, qs, h, r, e => by
    obtain ⟨v, w, rfl, h1, h2⟩ := h
    cases r with
    | cons r1 r2 =>
      rw [D.nks] at e
      cases e1 : D.nk d with
      | none => rw [e1] at e; cases e
      | some q =>
        rw [e1] at e
        cases e2 : D.nks ds with
        | none => rw [e2] at e; cases e
        | some l =>
          rw [e2] at e
          cases e
          exact .cons (nk_is I d v _ q h1 r1 e1) (nks_is I ds w _ l h2 r2 e2)
end
end

/-! ### tables of number and text keys -/
theorem dKey_inj {a b : D} {q : Key} (h : dKey a = some q) (e : dKey b = some q) : a = b := by
  cases a <;> cases b <;> simp [dKey] at h e <;> (subst h) <;> simp at e ⊢ <;> exact e.symm
theorem dKey_iff {a b : D} {q r : Key} (h : dKey a = some q) (e : dKey b = some r) : a = b ↔ q = r :=
  ⟨fun z => by rw [z, e] at h; exact (Option.some.inj h).symm, fun z => dKey_inj h (z ▸ e)⟩
theorem dLook_cons (k q v : D) (r : List (D × D)) : dLook k ((q, v) :: r) = if q = k then some v else dLook k r := rfl
section
variable {K : PySem.W.Frag} {P : Program} {w : World} {μ : List Addr} {H : Hp}
theorem KDs.look {k : D} {q : Key} (hk : dKey k = some q) : ∀ {kvs : List (D × D)} {ps : List (Key × V)}, KDs K μ H kvs ps → match dLook k kvs with
    | some d => ∃ v, valV ps q = some v ∧ DV K μ H d v
    | none => valV ps q = none
  | [], ps, h => by
    rw [show ps = [] from h]
    exact rfl
  | (k', d) :: t, ps, h => by
    obtain ⟨q', v, r, rfl, h0, h1, h2⟩ := h
    rw [dLook_cons]
    by_cases e : k' = k
    · rw [if_pos e]
      exact ⟨v, valV_pos ((dKey_iff h0 hk).mp e), h1⟩
    · rw [if_neg e, valV_neg (fun z => e ((dKey_iff h0 hk).mpr z))]
      exact KDs.look hk h2
theorem KDs.hasK {k : D} {q : Key} (hk : dKey k = some q) {kvs : List (D × D)} {ps : List (Key × V)} (h : KDs K μ H kvs ps) : (dLook k kvs).isSome = (ps.any fun p => decide (p.1 = q)) := by
  rw [valV_any]
  have z := h.look hk
  cases e : dLook k kvs with
  | none => rw [e] at z; rw [z]; rfl
  | some d =>
    rw [e] at z
    obtain ⟨v, e', _⟩ := z
    rw [e']; rfl
theorem KDs.app : ∀ {kvs more : List (D × D)} {ps qs : List (Key × V)}, KDs K μ H kvs ps → KDs K μ H more qs → KDs K μ H (kvs ++ more) (ps ++ qs)
  | [], _, ps, _, h, g => by
    rw [show ps = [] from h]
    exact g
  | (k', d) :: t, _, ps, _, h, g => by
    obtain ⟨q', v, r, rfl, h0, h1, h2⟩ := h
    exact ⟨q', v, r ++ _, rfl, h0, h1, KDs.app h2 g⟩
theorem KDs.repl {k d : D} {q : Key} {v : V} (hk : dKey k = some q) (hd : DV K μ H d v) : ∀ {kvs : List (D × D)} {ps : List (Key × V)}, KDs K μ H kvs ps →
    KDs K μ H (kvs.map fun p => if p.1 = k then (p.1, d) else p) (ps.map fun p => if p.1 = q then (p.1, v) else p)
  | [], ps, h => by
    rw [show ps = [] from h]
    exact rfl
  | (k', d') :: t, ps, h => by
    obtain ⟨q', v', r, rfl, h0, h1, h2⟩ := h
    rw [List.map_cons, List.map_cons]
    by_cases e : k' = k
    · rw [if_pos (show (k', d').1 = k from e), if_pos (show (q', v').1 = q from (dKey_iff h0 hk).mp e)]
      exact ⟨q', v, _, rfl, h0, hd, KDs.repl hk hd h2⟩
    · rw [if_neg (show ¬ (k', d').1 = k from e), if_neg (show ¬ (q', v').1 = q from fun z => e ((dKey_iff h0 hk).mpr z))]
      exact ⟨q', v', _, rfl, h0, h1, KDs.repl hk hd h2⟩
theorem KDs.put {k d : D} {q : Key} {v : V} (hk : dKey k = some q) (hd : DV K μ H d v) {kvs : List (D × D)} {ps : List (Key × V)} (h : KDs K μ H kvs ps) : KDs K μ H (dPut k d kvs) (putK ps q v) := by
  unfold dPut putK
  rw [h.hasK hk]
  by_cases e : (ps.any fun p => decide (p.1 = q)) = true
  · rw [if_pos e, if_pos e]
    exact h.repl hk hd
  · rw [if_neg e, if_neg e]
    exact h.app ⟨q, v, [], rfl, hk, hd, rfl⟩
theorem KDs.drop {k : D} {q : Key} (hk : dKey k = some q) : ∀ {kvs : List (D × D)} {ps : List (Key × V)}, KDs K μ H kvs ps → KDs K μ H (dDrop k kvs) (dropK ps q)
  | [], ps, h => by
    rw [show ps = [] from h]
    exact rfl
  | (k', d') :: t, ps, h => by
    obtain ⟨q', v', r, rfl, h0, h1, h2⟩ := h
    have ih := KDs.drop hk h2
    unfold dDrop dropK at ih ⊢
    rw [List.filter_cons, List.filter_cons]
    by_cases e : k' = k
    · have e2 := (dKey_iff h0 hk).mp e
      rw [if_neg (by simp [e]), if_neg (by simp [e2])]
      exact ih
    · have e2 : ¬ q' = q := fun z => e ((dKey_iff h0 hk).mpr z)
      rw [if_pos (by simp [e]), if_pos (by simp [e2])]
      exact ⟨q', v', _, rfl, h0, h1, ih⟩
theorem KDs.length : ∀ {kvs : List (D × D)} {ps : List (Key × V)}, KDs K μ H kvs ps → ps.length = kvs.length
  | [], ps, h => by
    rw [show ps = [] from h]; rfl
  | (k', d') :: t, ps, h => by
    obtain ⟨q', v', r, rfl, h0, h1, h2⟩ := h
    rw [List.length_cons, List.length_cons, KDs.length h2]
/-! ### tables of tuple keys -/
theorem nk_iff {a b : D} {q r : NestedKey} (h : D.nk a = some q) (e : D.nk b = some r) : a = b ↔ q = r :=
  ⟨fun z => by rw [z, e] at h; exact (Option.some.inj h).symm, fun z => D.nk_inj a b q h (z ▸ e)⟩
theorem atKey_pos {xs : List (NestedKey × Addr × Value)} {k q : NestedKey} {p : Addr × Value} (e : k = q) : atKey ((k, p) :: xs) q = some p := by simp [atKey, List.find?_cons, e]
theorem atKey_neg {xs : List (NestedKey × Addr × Value)} {k q : NestedKey} {p : Addr × Value} (e : ¬ k = q) : atKey ((k, p) :: xs) q = atKey xs q := by simp [atKey, List.find?_cons, e]
theorem TDs.look {k : D} {q : NestedKey} (hk : D.nk k = some q) : ∀ {kvs : List (D × D)} {xs : List (NestedKey × Addr × Value)}, TDs K μ H kvs xs → match dLook k kvs with
    | some d => ∃ a u v, atKey xs q = some (a, u) ∧ RelV v u ∧ DV K μ H d v
    | none => atKey xs q = none
  | [], ps, h => by
    rw [show ps = [] from h]
    exact rfl
  | (k', d) :: t, ps, h => by
    obtain ⟨q', a, u, v, r, rfl, h0, _, _, h1, h3, h2⟩ := h
    rw [dLook_cons]
    by_cases e : k' = k
    · rw [if_pos e]
      exact ⟨a, u, v, atKey_pos ((nk_iff h0 hk).mp e), h3, h1⟩
    · rw [if_neg e, atKey_neg (fun z => e ((nk_iff h0 hk).mpr z))]
      exact TDs.look hk h2
theorem TDs.hasK {k : D} {q : NestedKey} (hk : D.nk k = some q) {kvs : List (D × D)} {ps : List (NestedKey × Addr × Value)} (h : TDs K μ H kvs ps) : (dLook k kvs).isSome = (atKey ps q).isSome := by
  have z := h.look hk
  cases e : dLook k kvs with
  | none => rw [e] at z; rw [z]; rfl
  | some d =>
    rw [e] at z
    obtain ⟨a, u, v, e', _⟩ := z
    rw [e']; rfl
theorem TDs.app : ∀ {kvs more : List (D × D)} {ps qs : List (NestedKey × Addr × Value)}, TDs K μ H kvs ps → TDs K μ H more qs → TDs K μ H (kvs ++ more) (ps ++ qs)
  | [], _, ps, _, h, g => by
    rw [show ps = [] from h]
    exact g
  | (k', d) :: t, _, ps, _, h, g => by
    obtain ⟨q', a, u, v, r, rfl, h0, hz, ha, h1, h3, h2⟩ := h
    exact ⟨q', a, u, v, r ++ _, rfl, h0, hz, ha, h1, h3, TDs.app h2 g⟩
theorem TDs.repl {k d : D} {q : NestedKey} {v : V} {u : Value} (hk : D.nk k = some q) (hd : DV K μ H d v) (ru : RelV v u) : ∀ {kvs : List (D × D)} {ps : List (NestedKey × Addr × Value)}, TDs K μ H kvs ps →
    TDs K μ H (kvs.map fun p => if p.1 = k then (p.1, d) else p) (ps.map (putAt q u))
  | [], ps, h => by
    rw [show ps = [] from h]
    exact rfl
  | (k', d') :: t, ps, h => by
    obtain ⟨q', a, u', v', r, rfl, h0, hz, ha, h1, h3, h2⟩ := h
    rw [List.map_cons, List.map_cons]
    unfold putAt
    by_cases e : k' = k
    · rw [if_pos (show (k', d').1 = k from e), if_pos (show (q', a, u').1 = q from (nk_iff h0 hk).mp e)]
      exact ⟨q', a, u, v, _, rfl, h0, hz, ha, hd, ru, TDs.repl hk hd ru h2⟩
    · rw [if_neg (show ¬ (k', d').1 = k from e), if_neg (show ¬ (q', a, u').1 = q from fun z => e ((nk_iff h0 hk).mpr z))]
      exact ⟨q', a, u', v', _, rfl, h0, hz, ha, h1, h3, TDs.repl hk hd ru h2⟩
theorem TDs.put {k d : D} {q : NestedKey} {v : V} {u : Value} {b : Addr} (hk : D.nk k = some q) (hz : q.depth ≤ 8) (hb : DV K μ H k (.ref b)) (hd : DV K μ H d v) (ru : RelV v u) {kvs : List (D × D)} {ps : List (NestedKey × Addr × Value)} (h : TDs K μ H kvs ps) :
    TDs K μ H (dPut k d kvs) (storedH ps q b u) := by
  unfold dPut storedH
  rw [h.hasK hk]
  by_cases e : (atKey ps q).isSome = true
  · rw [if_pos e, if_pos e]
    exact h.repl hk hd ru
  · rw [if_neg e, if_neg e]
    exact h.app ⟨q, b, u, v, [], rfl, hk, hz, hb, hd, ru, rfl⟩
theorem TDs.drop {k : D} {q : NestedKey} (hk : D.nk k = some q) : ∀ {kvs : List (D × D)} {ps : List (NestedKey × Addr × Value)}, TDs K μ H kvs ps → TDs K μ H (dDrop k kvs) (withoutH ps q)
  | [], ps, h => by
    rw [show ps = [] from h]
    exact rfl
  | (k', d') :: t, ps, h => by
    obtain ⟨q', a, u', v', r, rfl, h0, hz, ha, h1, h3, h2⟩ := h
    have ih := TDs.drop hk h2
    unfold dDrop withoutH at ih ⊢
    rw [List.filter_cons, List.filter_cons]
    by_cases e : k' = k
    · have e2 := (nk_iff h0 hk).mp e
      rw [if_neg (by simp [e]), if_neg (by simp [e2])]
      exact ih
    · have e2 : ¬ q' = q := fun z => e ((nk_iff h0 hk).mpr z)
      rw [if_pos (by simp [e]), if_pos (by simp [e2])]
      exact ⟨q', a, u', v', _, rfl, h0, hz, ha, h1, h3, ih⟩
theorem TDs.length : ∀ {kvs : List (D × D)} {ps : List (NestedKey × Addr × Value)}, TDs K μ H kvs ps → ps.length = kvs.length
  | [], ps, h => by
    rw [show ps = [] from h]; rfl
  | (k', d') :: t, ps, h => by
    obtain ⟨q', a, u', v', r, rfl, h0, hz, ha, h1, h3, h2⟩ := h
    rw [List.length_cons, List.length_cons, TDs.length h2]
theorem TDs.sort : ∀ {kvs : List (D × D)} {ps : List (NestedKey × Addr × Value)}, TDs K μ H kvs ps → ∀ p ∈ kvs, keySort p.1 ≠ 1
  | [], _, _, _, h => by simp at h
  | (k', d') :: t, ps, h, p, hp => by
    obtain ⟨q', a, u', v', r, rfl, h0, hz, ha, h1, h3, h2⟩ := h
    rcases List.mem_cons.mp hp with rfl | hp
    · cases k' with
      | int i => exact absurd (show V.ref a = .int i from ha) (fun z => nomatch z)
      | str i => exact absurd (show V.ref a = .str i from ha) (fun z => nomatch z)
      | tup xs =>
        show tupSort _ ≠ 1
        rcases tupSort_cases (D.nk (.tup xs)) with z | ⟨z, _⟩ <;> rw [z] <;> decide
      | _ => simp [D.nk] at h0 <;> exact fun z => by cases z
    · exact TDs.sort h2 p hp
theorem KDs.sort : ∀ {kvs : List (D × D)} {ps : List (Key × V)}, KDs K μ H kvs ps → ∀ p ∈ kvs, keySort p.1 ≠ 2
  | [], _, _, _, h => by simp at h
  | (k', d') :: t, ps, h, p, hp => by
    obtain ⟨q', v', r, rfl, h0, h1, h2⟩ := h
    rcases List.mem_cons.mp hp with rfl | hp
    · cases k' with
      | int i => exact fun z => by cases z
      | str i => exact fun z => by cases z
      | _ => simp [dKey] at h0
    · exact KDs.sort h2 p hp
theorem sort1 {k : D} (h : keySort k = 1) : ∃ q, dKey k = some q ∧ ∀ v, DV K μ H k v → v = kV q := by
  cases k with
  | int i => exact ⟨.inl i, rfl, fun v h => h⟩
  | str i => exact ⟨.inr i, rfl, fun v h => h⟩
  | tup xs =>
    have h : tupSort _ = 1 := h
    rcases tupSort_cases (D.nk (.tup xs)) with z | ⟨z, _⟩ <;> rw [z] at h <;> cases h
  | _ => cases h
theorem sort2 {k : D} (h : keySort k = 2) : ∃ q, D.nk k = some q ∧ q.depth ≤ 8 ∧ ∀ v, DV K μ H k v → ∃ a, v = .ref a := by
  cases k with
  | tup xs =>
    have h : tupSort _ = 2 := h
    rcases tupSort_cases (D.nk (.tup xs)) with z | ⟨_, q, e, hz⟩
    · rw [z] at h
      cases h
    · refine ⟨q, e, hz, fun v hv => ?_⟩
      obtain ⟨p, vs, rfl, _⟩ := hv
      exact ⟨p, rfl⟩
  | _ => cases h
theorem dOk_cases {k : D} {kvs : List (D × D)} (h : dOk k kvs = true) : (keySort k = 1 ∧ ∀ p ∈ kvs, keySort p.1 = 1) ∨ (keySort k = 2 ∧ ∀ p ∈ kvs, keySort p.1 = 2) := by
  unfold dOk at h
  obtain ⟨h1, h2⟩ := Bool.and_eq_true_iff.mp h
  have h3 : ∀ p ∈ kvs, keySort p.1 = keySort k := fun p hp => beq_iff_eq.mp (List.all_eq_true.mp h2 p hp)
  have h4 : keySort k = 0 ∨ keySort k = 1 ∨ keySort k = 2 := by
    cases k with
    | tup xs =>
      rcases tupSort_cases (D.nk (.tup xs)) with z | ⟨z, _⟩
      · exact .inl z
      · exact .inr (.inr z)
    | _ => simp [keySort]
  rcases h4 with e | e | e
  · rw [e] at h1
    cases h1
  · exact .inl ⟨e, fun p hp => (h3 p hp).trans e⟩
  · exact .inr ⟨e, fun p hp => (h3 p hp).trans e⟩
end

/-! ### the way that a dict lies -/
section
variable {X : Cx} {pins : List (Addr × Obj)} {σ : L2.St} {H : Hp} {s : Shared} {μ : List Addr} {A : AH} {n : Nat} {a : Addr} {kvs : List (D × D)}
theorem set_same {α : Type} {l : List α} {n : Nat} {x : α} (h : l[n]? = some x) : l.set n x = l := by
  apply List.ext_getElem?
  intro i
  by_cases e : n = i
  · subst e
    rw [List.getElem?_set_self (List.getElem?_eq_some_iff.mp h).1, h]
  · rw [List.getElem?_set_ne e]
theorem HR.putS {K : PySem.W.Frag} {P : Program} {w : World} (h : HR K P w μ H A) {n : Nat} {p : Addr} {o : HO} {ao : AO} (g : A[n]? = some ao) (e : μ[n]? = some p) (q : OR K P w μ (upd H p o) p ao) : HR K P w μ (upd H p o) A := by
  have z := h.put e q
  rw [set_same g] at z
  exact z
theorem raw_mut {o : Obj} (e : H a = some (rawO a o)) : Mut (H a) := by
  rw [e]
  exact True.intro
theorem raw_get (I : Inv X pins σ H s) {o : Obj} (e : H a = some (rawO a o)) : s.heap.get? a = some o := by
  have z : ObjOk X.prog X.w H s.heap a (rawO a o) := I.hok a _ e
  exact z.1
theorem raw_ok {H' : Hp} {h : Heap} {P : Program} {w : World} {o : Obj} (e : h.get? a = some o) : ObjOk P w H' h a (rawO a o) := ⟨e, ⟨o, e⟩, fun _ _ p k => k _ p⟩
/-- as a dict of numbers and texts -/
theorem dic_as1 (I : Inv X pins σ H s) (hr : HR X.K X.prog X.w μ H A) (g : A[n]? = some (.dic kvs)) (m : μ[n]? = some a) (hs : ∀ p ∈ kvs, keySort p.1 = 1) :
    ∃ H', Inv X pins σ H' s ∧ HR X.K X.prog X.w μ H' A ∧ Le μ H μ H' ∧ ∃ ps, H' a = some (.dK ps) ∧ KDs X.K μ H' kvs ps := by
  rcases hr.obj n _ a g m with ⟨ps, e, q⟩ | ⟨o, es, ep, xs, e, r1, r2, r3, r4, r5, r6, q⟩
  · exact ⟨H, I, hr, Le.refl _ _, ps, e, q⟩
  · cases kvs with
    | cons p t => exact absurd (hs p List.mem_cons_self) (q.sort p List.mem_cons_self)
    | nil =>
      rw [show xs = [] from q] at r5
      have ho := raw_get I e
      have hm : a ∈ μ := List.mem_of_getElem? m
      have es0 : es = #[] := by
        rw [← Array.toList_eq_nil_iff]
        exact r5
      subst es0
      refine ⟨upd H a (.dK []), ?_, hr.putS g m (.inl ⟨[], upd_same, rfl⟩), Le.put hm, [], upd_same, rfl⟩
      have z := I.write (t' := s.toks) (x := a) (e := a) (o := .dK []) (h' := s.heap) (raw_mut e) (.inl rfl) (fun b u _ h => h) ⟨o, ho⟩
        (show ObjOk X.prog X.w _ s.heap a (.dK []) from ⟨by rw [sizeLine_eq]; simp, r1, [], .nil, o, _, ep, ho, r2, r3, (fun e he => absurd he (by simp)), .nil, List.nodup_nil⟩)
      exact z
theorem td_is (I : Inv X pins σ H s) : ∀ {kvs : List (D × D)} {xs : List (NestedKey × Addr × Value)}, TDs X.K μ H kvs xs → ∀ x ∈ xs, (nestedKind X.prog X.w).is s.heap x.1 x.2.1
  | [], xs, h, x, hx => by
    rw [show xs = [] from h] at hx
    simp at hx
  | (k', d') :: t, xs, h, x, hx => by
    obtain ⟨q', b, u', v', r, rfl, h0, hz, ha, h1, h3, h2⟩ := h
    rcases List.mem_cons.mp hx with rfl | hx
    · exact ⟨nk_is I k' (.ref b) (.ref b) q' ha rfl h0, hz⟩
    · exact td_is I h2 x hx
/-- as a dict of tuples -/
theorem dic_as2 (I : Inv X pins σ H s) (hr : HR X.K X.prog X.w μ H A) (g : A[n]? = some (.dic kvs)) (m : μ[n]? = some a) (hs : ∀ p ∈ kvs, keySort p.1 = 2) :
    ∃ H', Inv X pins σ H' s ∧ HR X.K X.prog X.w μ H' A ∧ Le μ H μ H' ∧ ∃ o xs, H' a = some (rawO a o) ∧ (a == sysModules) = false ∧ kvs.length ≤ sizeLine ∧ s.heap.DictOfH (nestedKind X.prog X.w) a xs ∧ TDs X.K μ H' kvs xs := by
  rcases hr.obj n _ a g m with ⟨ps, e, q⟩ | ⟨o, es, ep, xs, e, r1, r2, r3, r4, r5, r6, q⟩
  · cases kvs with
    | cons p t => exact absurd (hs p List.mem_cons_self) (q.sort p List.mem_cons_self)
    | nil =>
      rw [show ps = [] from q] at e
      have hm : a ∈ μ := List.mem_of_getElem? m
      obtain ⟨_, hd, vs, rel, o, es, ep, ho, hx, hdt, _, hp, _⟩ := dk_of I.hok e
      cases rel
      have es0 : es = #[] := by
        rw [← Array.toList_eq_nil_iff]
        generalize es.toList = l at hp
        cases hp
        rfl
      subst es0
      refine ⟨upd H a (rawO a o), ?_, hr.putS g m (.inr ⟨o, #[], ep, [], upd_same, hd, hx, hdt, by simp, rfl, List.nodup_nil, rfl⟩), Le.put hm, o, [], upd_same, hd, by simp, ⟨o, #[], ep, ho, hx, hdt, rfl, by simp, List.nodup_nil⟩, rfl⟩
      exact I.write (t' := s.toks) (x := a) (e := a) (o := rawO a o) (h' := s.heap) (by rw [e]; exact True.intro) (.inl rfl) (fun b u _ h => h) ⟨o, ho⟩ (raw_ok ho)
  · exact ⟨H, I, hr, Le.refl _ _, o, xs, e, r1, r4, ⟨o, es, ep, raw_get I e, r2, r3, r5, td_is I q, r6⟩, q⟩
end
end Pi

/-! Pi6: places, slices, in, stores, methods of lists and dicts. -/
namespace Pi
open PyProof.Rows PySem L2 PySem.Spec

def opt {α : Type} : Option α → M α
  | some a => ret a
  | none => noM
theorem opt_post {α : Type} {K : PySem.W.Frag} {P : Program} {w : World} {W : WX} {σ : L2.St} {μ : List Addr} {H : Hp} {A : AH} {o : Option α} {Q : List Addr → Hp → α → AH → Prop} (h : post K P w W σ μ H (opt o A) Q) : ∃ a, o = some a ∧ post K P w W σ μ H (.ok a A) Q := by
  cases o with
  | none => exact h.elim
  | some a => exact ⟨a, rfl, h⟩
/-- the object of a number -/
def onRef {α : Type} (n : Nat) (f : AO → M α) : M α := fun A => match A[n]? with
  | some o => f o A
  | none => .no
theorem onRef_post {α : Type} {K : PySem.W.Frag} {P : Program} {w : World} {W : WX} {σ : L2.St} {μ : List Addr} {H : Hp} {A : AH} {n : Nat} {f : AO → M α} {Q : List Addr → Hp → α → AH → Prop} (h : post K P w W σ μ H (onRef n f A) Q) : ∃ o, A[n]? = some o ∧ post K P w W σ μ H (f o A) Q := by
  unfold onRef at h
  cases e : A[n]? with
  | none => rw [e] at h; exact h.elim
  | some o => rw [e] at h; exact ⟨o, rfl, h⟩
/-- the object is written -/
def put (n : Nat) (o : AO) : M Unit := fun A => .ok () (A.set n o)

/-! ### x[i] -/
def getD : D → D → M D
  | .tup xs, .int i => opt (atI xs i)
  | .frl xs, .int i => opt (atI xs i)
  | .str z, .int i => if z.length ≤ sizeLine then opt ((atI z.cps.toList i).map fun c => .str ⟨#[c]⟩) else noM
  | .ref n, k => onRef n fun o => match o, k with
    | .lst xs, .int i => opt (atI xs i)
    | .dic kvs, k => if dOk k kvs = true then opt (dLook k kvs) else noM
    | _, _ => noM
  | _, _ => noM
def IxD (X : Cx) (g : D → D → M D) : Prop := ∀ (W : WX) (σ' : L2.St), IxR X fun x y H Q => ∃ μ A d e, HR X.K X.prog X.w μ H A ∧ DV X.K μ H d x ∧ DV X.K μ H e y ∧ post X.K X.prog X.w W σ' μ H (g d e A) (vQ X.K Q)
section
variable {X : Cx} {pins : List (Addr × Obj)} {σ : L2.St} {H : Hp} {s : Shared} {μ : List Addr} {A : AH}
theorem DVs.atI {K : PySem.W.Frag} {xs : List D} {vs : List V} {i : Int} {d : D} (h : DVs K μ H xs vs) (e : atI xs i = some d) : ∃ v, L2.atI vs i = some v ∧ DV K μ H d v := by
  unfold L2.atI at e ⊢
  rw [h.length]
  cases q : ixN xs.length i with
  | none => rw [q] at e; cases e
  | some j =>
    rw [q] at e
    exact h.get e
theorem KV_val {kvs : List (Key × V)} {vs : List (Key × Value)} (r : KV kvs vs) {q : Key} {v : V} (e : valV kvs q = some v) : ∃ u, valueAt vs q = some u ∧ RelV v u := by
  have z := r.val q
  rw [e] at z
  exact RelO.some_of z
theorem raw_exact {h : Heap} {a : Addr} {xs : List (NestedKey × Addr × Value)} {P : Program} {w : World} (x : h.DictOfH (nestedKind P w) a xs) : ∃ o, h.get? a = some o ∧ o.ExactDict := by
  obtain ⟨o, _, _, e, ex, _⟩ := x
  exact ⟨o, e, ex⟩
theorem ix_d (hu : X.A.units + 64 < cLine) : IxD X getD := by
  intro W σ' value slice pins s σ H x y v u Q I rx ry h hs
  obtain ⟨μ, A, d, e, hr, hd, he, p⟩ := h
  unfold getD at p
  split at p
  · obtain rfl := he
    obtain ⟨r, e1, p⟩ := opt_post p
    obtain ⟨a, vs, rfl, t, q⟩ := id hd
    obtain ⟨z, e2, dz⟩ := q.atI e1
    exact ix_tup value slice pins s σ H _ _ v u Q I rx ry ⟨a, vs, _, z, rfl, rfl, t.sq, e2, vok p hr dz⟩ hs
  · obtain rfl := he
    obtain ⟨r, e1, p⟩ := opt_post p
    obtain ⟨a, vs, rfl, t, q⟩ := id hd
    obtain ⟨z, e2, dz⟩ := q.atI e1
    exact ix_list value slice pins s σ H _ _ v u Q I rx ry ⟨a, vs, _, z, rfl, rfl, t.sq, e2, vok p hr dz⟩ hs
  · obtain rfl := hd
    obtain rfl := he
    obtain ⟨hz, p⟩ := ifno p
    obtain ⟨r, e1, p⟩ := opt_post p
    obtain ⟨c, e2, rfl⟩ := Option.map_eq_some_iff.mp e1
    exact ix_str value slice pins s σ H _ _ v u Q I rx ry ⟨_, _, c, rfl, rfl, hz, e2, vok p hr rfl⟩ hs
  · rename_i n
    obtain ⟨o, e1, p⟩ := onRef_post p
    split at p
    · obtain rfl := he
      obtain ⟨r, e2, p⟩ := opt_post p
      obtain ⟨a, vs, rfl, m, hl, q⟩ := HRlist hr hd e1
      obtain ⟨z, e3, dz⟩ := q.atI e2
      exact ix_list value slice pins s σ H _ _ v u Q I rx ry ⟨a, vs, _, z, rfl, rfl, .of hl, e3, vok p hr dz⟩ hs
    · rename_i kvs
      obtain ⟨hk, p⟩ := ifno p
      obtain ⟨r, e2, p⟩ := opt_post p
      obtain ⟨a, rfl, m⟩ := id hd
      cases rx
      rcases dOk_cases hk with ⟨k1, ks⟩ | ⟨k1, ks⟩
      · obtain ⟨H', I', hr', l, ps, ea, kd⟩ := dic_as1 I hr e1 m ks
        obtain ⟨q, hq, hv⟩ := sort1 (K := X.K) (μ := μ) (H := H) k1
        obtain rfl := hv _ he
        have z := kd.look hq
        rw [e2] at z
        obtain ⟨z, e3, dz⟩ := z
        have g := DGet.k (k := q) ea
        rw [e3] at g
        refine tail_any (dict_typeIs I' g) PySem.F.slot_dict_getitem.lookup (d_getItem (by omega) I' g ry fun w' s' I2 rw' => ⟨z, H', I2, rw', ?_⟩) hs
        exact vok (p.le l) hr' dz
      · obtain ⟨H', I', hr', l, o, xs, ea, hb, hl, dh, td⟩ := dic_as2 I hr e1 m ks
        obtain ⟨q, hq, hz, hv⟩ := sort2 (K := X.K) (μ := μ) (H := H) k1
        obtain ⟨b, rfl⟩ := hv _ he
        have hi := nk_is I e (.ref b) u q he ry hq
        cases ry
        have z := td.look hq
        rw [e2] at z
        obtain ⟨c, u', v', e3, rv, dz⟩ := z
        refine tail_any dh.typeIs PySem.F.slot_dict_getitem.lookup (wpAny_getItem_heap (knd := nestedKind X.prog X.w) (k := q) (show X.A.units + 1 + 8 < cLine by omega) ⟨hi, hz⟩ dh e3 ⟨v', H', I'.tok _, rv, ?_⟩) hs
        exact vok (p.le l) hr' dz
    · exact p.elim
  · exact p.elim
end

/-! ### x in y -/
/-- by values; none: nothing told -/
def inB (A : AH) (x : D) : D → Option Bool
  | .str z => match x with
    | .str c => if c.cps.size = 1 then some (decide (c.cps.toList.headD 0 ∈ z.cps.toList)) else none
    | _ => none
  | .ref n => match A[n]? with
    | some (.dic kvs) => if dOk x kvs = true then some (dLook x kvs).isSome else none
    | some (.lst xs) => inSeq A x (.list) xs
    | _ => none
  | .tup xs => inSeq A x (.tuple) xs
  | .frl xs => inSeq A x (.list) xs
  | _ => none
where inSeq (A : AH) (x : D) (f : List PyData → PyData) (xs : List D) : Option Bool := match pyH A x, D.pys (lkH A 7) xs with
    | some d, some ds => if SeqAt.shaped d = true ∧ SeqAt.shaped (f ds) = true then some (ds.any fun z => PyData.eqv z d) else none
    | _, _ => none
def inD (x y : D) : M D := fun A => match inB A x y with
  | some b => .ok (.bl b) A
  | none => .no
def ninD (x y : D) : M D := fun A => match inB A x y with
  | some b => .ok (.bl (!b)) A
  | none => .no
section
variable {X : Cx} {pins : List (Addr × Obj)} {σ : L2.St} {H : Hp} {s : Shared} {μ : List Addr} {A : AH}
theorem str_one {c : Str} (h : c.cps.size = 1) : c = ⟨#[c.cps.toList.headD 0]⟩ := by
  obtain ⟨⟨l⟩⟩ := c
  match l, h with
  | [a], _ => rfl
/-- the two comparisons in one: g b is b, or not b -/
theorem od_in0 (op : CmpOp) (g : Bool → Bool) (hu : X.A.units + 65 < cLine)
    (r1 : ∀ {c x : Value} {xs : List PyData} {d : PyData} {as bs : List Addr} {s : Shared} {Q E : Value → Shared → Prop}, Reads s.heap c (.list xs) as → Reads s.heap x d bs → PyData.canLayAll0 xs = true → d.canLay0 = true → X.A.units + 1 + min (PyData.depthAll xs) d.depth < cLine →
      Q (.bool (g (xs.any fun y => PyData.eqv y d))) s → wpAny (model X.prog X.w) X.A (compareOp op x c) Q E s)
    (r2 : ∀ {c x : Value} {xs : List PyData} {d : PyData} {as bs : List Addr} {s : Shared} {Q E : Value → Shared → Prop}, Reads s.heap c (.tuple xs) as → Reads s.heap x d bs → PyData.canLayAll0 xs = true → d.canLay0 = true → X.A.units + 1 + min (PyData.depthAll xs) d.depth < cLine →
      Q (.bool (g (xs.any fun y => PyData.eqv y d))) s → wpAny (model X.prog X.w) X.A (compareOp op x c) Q E s)
    (r3 : OpR X (compareOp op) (fun x y H Q => ∃ (c : Nat) (z : Str), x = .str ⟨#[c]⟩ ∧ y = .str z ∧ Q (.bl (g (decide (c ∈ z.cps.toList)))) H))
    (r4 : ∀ {pins : List (Addr × Obj)} {σ : L2.St} {H : Hp} {s : Shared} {a : Addr} {y : V} {u : Value} {o : Option V} {Q E : Value → Shared → Prop}, Inv X pins σ H s → DGet H a y o → RelV y u → (∀ s', Inv X pins σ H s' → Q (.bool (g o.isSome)) s') → wpAny (model X.prog X.w) X.A (compareOp op u (.ref a)) Q E s)
    (r5 : ∀ {d a : Addr} {k : NestedKey} {xs : List (NestedKey × Addr × Value)} {s : Shared} {Q E : Value → Shared → Prop}, (nestedKind X.prog X.w).is s.heap k a → (d == sysModules) = false → s.heap.DictOfH (nestedKind X.prog X.w) d xs →
      (∀ t, Q (.bool (g (atKey xs k).isSome)) { s with toks := t }) → wpAny (model X.prog X.w) X.A (compareOp op (.ref a) (.ref d)) Q E s) :
    OpD X (compareOp op) (fun x y A => match inB A x y with
      | some b => .ok (.bl (g b)) A
      | none => .no) := by
  intro W σ' pins s σ H x y v u Q I rx ry h
  obtain ⟨μ, A, d, e, hr, hd, he, p⟩ := h
  have seq : ∀ {f : List PyData → PyData} {xs : List D} {b : Bool}, inB.inSeq A d f xs = some b → ∃ q qs, pyH A d = some q ∧ D.pys (lkH A 7) xs = some qs ∧ SeqAt.shaped q = true ∧ SeqAt.shaped (f qs) = true ∧ b = (qs.any fun z => PyData.eqv z q) := by
    intro f xs b hb
    unfold inB.inSeq at hb
    cases e1 : pyH A d with
    | none => rw [e1] at hb; cases hb
    | some q =>
      rw [e1] at hb
      cases e2 : D.pys (lkH A 7) xs with
      | none => rw [e2] at hb; cases hb
      | some qs =>
        rw [e2] at hb
        have hb : (if SeqAt.shaped q = true ∧ SeqAt.shaped (f qs) = true then some (qs.any fun z => PyData.eqv z q) else none) = some b := hb
        by_cases c : SeqAt.shaped q = true ∧ SeqAt.shaped (f qs) = true
        · rw [if_pos c] at hb
          exact ⟨q, qs, rfl, rfl, c.1, c.2, (Option.some.inj hb).symm⟩
        · rw [if_neg c] at hb
          cases hb
  cases hB : inB A d e with
  | none => simp only [hB] at p; exact p.elim
  | some b =>
    simp only [hB] at p
    have fin : Q (.bl (g b)) H := vok p hr rfl
    have lst : ∀ {a : Addr} {xs : List D} {vs : List V}, y = .ref a → SqL X.K H a vs → DVs X.K μ H xs vs → inB.inSeq A d .list xs = some b → wpAny (model X.prog X.w) X.A (compareOp op v u) (EP X pins σ Q) X.xe s := by
      intro a xs vs e0 hs hv hb
      obtain ⟨q, qs, e1, e2, s1, s2, rfl⟩ := seq hb
      obtain ⟨as, k1⟩ := Dp.reads I q x v (pyH_dp hr hd e1) rx
      obtain ⟨bs, k2⟩ := Dp.reads I (.list qs) y u (by rw [e0]; exact .lst hs (pys_dp (lk_dp hr 7) xs vs qs hv e2)) ry
      exact r1 k2 k1 (SeqAt.canLay_of_shaped s2) (SeqAt.canLay_of_shaped s1) (room_in_shaped s1 hu) ⟨.bl _, H, I, rfl, fin⟩
    unfold inB at hB
    split at hB
    · obtain rfl := he
      split at hB
      · obtain rfl := hd
        rename_i z _ c
        by_cases hc : c.cps.size = 1
        · rw [if_pos hc] at hB
          refine r3 pins s σ H _ _ v u Q I rx ry ⟨c.cps.toList.headD 0, z, by rw [← str_one hc], rfl, ?_⟩
          rw [Option.some.inj hB]
          exact fin
        · rw [if_neg hc] at hB
          cases hB
      · cases hB
    · rename_i n
      obtain ⟨a, rfl, m⟩ := id he
      split at hB
      · rename_i kvs e1
        by_cases hk : dOk d kvs = true
        · rw [if_pos hk] at hB
          cases ry
          rcases dOk_cases hk with ⟨k1, ks⟩ | ⟨k1, ks⟩
          · obtain ⟨H', I', hr', l, ps, ea, kd⟩ := dic_as1 I hr e1 m ks
            obtain ⟨q, hq, hv⟩ := sort1 (K := X.K) (μ := μ) (H := H) k1
            obtain rfl := hv _ hd
            have z := kd.hasK hq
            refine r4 I' (DGet.k (k := q) ea) rx fun s' I2 => ⟨.bl _, H', I2, rfl, ?_⟩
            rw [← valV_any, ← z, Option.some.inj hB]
            exact vok (p.le l) hr' rfl
          · obtain ⟨H', I', hr', l, o, xs, ea, hb, hl, dh, td⟩ := dic_as2 I hr e1 m ks
            obtain ⟨q, hq, hz, hv⟩ := sort2 (K := X.K) (μ := μ) (H := H) k1
            obtain ⟨c, rfl⟩ := hv _ hd
            have hi := nk_is I d (.ref c) v q hd rx hq
            cases rx
            have z := td.hasK hq
            refine r5 (k := q) ⟨hi, hz⟩ hb dh fun t => ⟨.bl _, H', I'.tok _, rfl, ?_⟩
            rw [← z, Option.some.inj hB]
            exact vok (p.le l) hr' rfl
        · rw [if_neg hk] at hB
          cases hB
      · rename_i xs e1
        obtain ⟨a', vs, e2, m', hl, q⟩ := HRlist hr he e1
        exact lst e2 (.of hl) q hB
      · cases hB
    · rename_i xs
      obtain ⟨a, vs, rfl, t, hv⟩ := id he
      obtain ⟨q, qs, e1, e2, s1, s2, rfl⟩ := seq hB
      obtain ⟨as, k1⟩ := Dp.reads I q x v (pyH_dp hr hd e1) rx
      obtain ⟨bs, k2⟩ := Dp.reads I (.tuple qs) _ u (.tup t.sq (pys_dp (lk_dp hr 7) xs vs qs hv e2)) ry
      exact r2 k2 k1 (SeqAt.canLay_of_shaped s2) (SeqAt.canLay_of_shaped s1) (room_in_shaped s1 hu) ⟨.bl _, H, I, rfl, fin⟩
    · rename_i xs
      obtain ⟨a, vs, rfl, t, hv⟩ := id he
      exact lst rfl t.sq hv hB
    · cases hB
theorem od_in (hu : X.A.units + 66 < cLine) : OpD X (compareOp .In) inD :=
  od_in0 .In id (by omega) (fun a b c d e f => SeqAt.in_list_reads a b c d e f) (fun a b c d e f => SeqAt.in_tuple_reads a b c d e f) op_in_sign (fun I g r h => d_in (by omega) I g r h)
    (fun hk hd hm h => wpAny_in_heap (knd := nestedKind X.prog X.w) (show X.A.units + 1 + 8 < cLine by omega) hk hd hm (h _))
theorem od_nin (hu : X.A.units + 66 < cLine) : OpD X (compareOp .NotIn) ninD :=
  od_in0 .NotIn (fun b => !b) (by omega) (fun a b c d e f => SeqAt.notIn_list_reads a b c d e f) (fun a b c d e f => SeqAt.notIn_tuple_reads a b c d e f) op_notIn_sign (fun I g r h => d_notIn (by omega) I g r h)
    (fun hk hd hm h => wpAny_notIn_heap (knd := nestedKind X.prog X.w) (show X.A.units + 1 + 8 < cLine by omega) hk hd hm (h _))
end
end Pi

/-! Pi7: stores, slices, methods of lists, tuples, dicts. -/
namespace Pi
open PyProof.Rows PySem L2 PySem.Spec

/-! ### o[i] = v -/
def setD (o k v : D) : M Unit := match o with
  | .ref n => onRef n fun ob => match ob, k with
    | .lst xs, .int i => (match ixN xs.length i with
      | some j => put n (.lst (xs.set j v))
      | none => noM)
    | .dic kvs, k => if dOk k kvs = true ∧ kvs.length < sizeLine then put n (.dic (dPut k v kvs)) else noM
    | _, _ => noM
  | _ => noM
/-- a statement's part comes without a value -/
def uQ (Q : Hp → Prop) : List Addr → Hp → Unit → AH → Prop := fun _ H' _ _ => Q H'
theorem put_post {K : PySem.W.Frag} {P : Program} {w : World} {W : WX} {σ : L2.St} {μ : List Addr} {H : Hp} {A : AH} {n : Nat} {o : AO} {u : HO} {a : Addr} {Q : List Addr → Hp → Unit → AH → Prop} (h : post K P w W σ μ H (put n o A) Q) (hr : HR K P w μ H A) (m : μ[n]? = some a)
    (q : OR K P w μ (upd H a u) a o) : Q μ (upd H a u) () (A.set n o) := h μ (upd H a u) (Le.put (List.mem_of_getElem? m)) (hr.put m q)
def StD (X : Cx) (g : D → D → D → M Unit) : Prop := ∀ (W : WX) (σ' : L2.St), PSet X fun o i v H Q => ∃ μ A d e f, HR X.K X.prog X.w μ H A ∧ DV X.K μ H d o ∧ DV X.K μ H e i ∧ DV X.K μ H f v ∧ post X.K X.prog X.w W σ' μ H (g d e f A) (uQ Q)
theorem dPut_len (k v : D) (kvs : List (D × D)) : (dPut k v kvs).length ≤ kvs.length + 1 := by
  unfold dPut
  split
  · rw [List.length_map]
    omega
  · rw [List.length_append]
    exact Nat.le_refl _
theorem storedH_nodup {P : Program} {w : World} {h : Heap} {a : Addr} {xs : List (NestedKey × Addr × Value)} (x : h.DictOfH (nestedKind P w) a xs) : ∃ o es ep, h.get? a = some o ∧ o.ExactDict ∧ o.data = .dict es ep ∧ es.toList = xs.map (entryOfKey (nestedKind P w)) ∧ (xs.map (·.1)).Nodup := by
  obtain ⟨o, es, ep, h1, h2, h3, h4, _, h5⟩ := x
  exact ⟨o, es, ep, h1, h2, h3, h4, h5⟩
section
variable {X : Cx} {pins : List (Addr × Obj)} {σ : L2.St} {H : Hp} {s : Shared} {μ : List Addr} {A : AH}
/-- a dict of tuples is written -/
theorem Inv.rawPut (I : Inv X pins σ H s) {a : Addr} {o o' : Obj} {h' : Heap} {t : Nat} (e : H a = some (rawO a o)) (hs : Heap.SameBut a s.heap h') (e' : h'.get? a = some o') : Inv X pins σ (upd H a (rawO a o')) { s with heap := h', toks := t } :=
  I.write (x := a) (e := a) (raw_mut e) (.inl rfl) (fun b u hb z => (hs.2 b hb).trans z) ⟨o', e'⟩ (raw_ok e')
theorem st_d (hu : X.A.units + 64 < cLine) : StD X setD := by
  intro W σ' pins s σ H o i v ov iv u Q I ro ri rv h
  obtain ⟨μ, A, d, e, f, hr, hd, he, hf, p⟩ := h
  unfold setD at p
  split at p
  · rename_i n
    obtain ⟨ob, e1, p⟩ := onRef_post p
    split at p
    · rename_i xs i _
      obtain rfl := he
      obtain ⟨a, vs, rfl, m, hl, q⟩ := HRlist hr hd e1
      cases hj : ixN xs.length i with
      | some j =>
        simp only [hj] at p
        refine set_list pins s σ H _ _ v ov iv u Q I ro ri rv ⟨a, vs, _, j, rfl, rfl, hl, by rw [q.length]; exact hj, ?_⟩
        have hm : a ∈ μ := List.mem_of_getElem? m
        exact put_post p hr m ⟨_, upd_same, (DVs.set j q hf).le (Le.put hm)⟩
      | none =>
        simp only [hj] at p
        exact p.elim
    · rename_i kvs
      obtain ⟨⟨hk, hz⟩, p⟩ := ifno p
      obtain ⟨a, rfl, m⟩ := id hd
      have hm : a ∈ μ := List.mem_of_getElem? m
      cases ro
      rcases dOk_cases hk with ⟨k1, ks⟩ | ⟨k1, ks⟩
      · obtain ⟨H', I', hr', l, ps, ea, kd⟩ := dic_as1 I hr e1 m ks
        obtain ⟨q, hq, hv⟩ := sort1 (K := X.K) (μ := μ) (H := H) k1
        obtain rfl := hv _ he
        refine d_setItem (H' := upd H' a (.dK (putK ps q v))) (by omega) I' (DPut.k ea (by rw [kd.length]; exact hz)) ri rv fun s' I2 => ⟨_, I2, ?_⟩
        exact put_post (p.le l) hr' m (.inl ⟨_, upd_same, (kd.put hq (hf.le l)).le (Le.put hm)⟩)
      · obtain ⟨H', I', hr', l, o0, xs, ea, hb, hl, dh, td⟩ := dic_as2 I hr e1 m ks
        obtain ⟨q, hq, hz', hv⟩ := sort2 (K := X.K) (μ := μ) (H := H) k1
        obtain ⟨b, rfl⟩ := hv _ he
        have hi := nk_is I e (.ref b) iv q he ri hq
        cases ri
        refine wpAny_setItem_heap (knd := nestedKind X.prog X.w) (k := q) (hsz := by rw [td.length]; exact hl) (show X.A.units + 1 + 8 < cLine by omega) ⟨hi, hz'⟩ dh fun h' dh' hs => ?_
        obtain ⟨o', es', ep', g1, g2, g3, g4, g5⟩ := storedH_nodup dh'
        refine ⟨_, Inv.rawPut I' ea hs g1, ?_⟩
        refine put_post (p.le l) hr' m (.inr ⟨o', es', ep', _, upd_same, hb, g2, g3, ?_, g4, g5, (td.put hq hz' (he.le l) (hf.le l) rv).le (Le.put hm)⟩)
        have := dPut_len e f kvs
        omega
    · exact p.elim
  · exact p.elim
end

/-! ### x[lo:hi] -/
def cutD {α : Type} (xs : List α) (lo hi : Option Int) : List α := (xs.drop (HT.sIx xs.length 0 lo)).take (HT.sIx xs.length xs.length hi - HT.sIx xs.length 0 lo)
def slD : D → Option Int → Option Int → M D
  | .tup xs, lo, hi => ret (.tup (cutD xs lo hi))
  | .frl xs, lo, hi => new (.lst (cutD xs lo hi))
  | .str z, lo, hi => if z.length ≤ sizeLine then ret (.str (Txt.slice z lo hi)) else noM
  | .ref n, lo, hi => onRef n fun o => match o with
    | .lst xs => new (.lst (cutD xs lo hi))
    | _ => noM
  | _, _, _ => noM
theorem DVs.cut {K : PySem.W.Frag} {μ : List Addr} {H : Hp} {xs : List D} {vs : List V} (h : DVs K μ H xs vs) (lo hi : Option Int) : DVs K μ H (cutD xs lo hi) (cutV vs lo hi) := by
  unfold cutD cutV
  rw [h.length]
  exact (h.drop _).take _
section
variable {X : Cx}
theorem sl_d : ∀ (W : WX) (σ' : L2.St), SlR X fun x lo hi H Q => ∃ μ A d, HR X.K X.prog X.w μ H A ∧ DV X.K μ H d x ∧ post X.K X.prog X.w W σ' μ H (slD d lo hi A) (vQ X.K Q) := by
  intro W σ' pins s σ H x v vl vu lo hi sl Q I rx hs pl pu h
  obtain ⟨μ, A, d, hr, hd, p⟩ := h
  unfold slD at p
  split at p
  · rename_i xs
    obtain ⟨a, vs, rfl, t, q⟩ := id hd
    have hq := q.cut lo hi
    refine sl_tupF pins s σ H _ v vl vu lo hi sl Q I rx hs pl pu ⟨a, vs, rfl, t.sq, fun hw => ?_, fun _ => new_tup p hr hq⟩
    have e : cutD xs lo hi = xs := by
      unfold cutD
      rw [← q.length, hw.1, hw.2, q.length]
      simp
    rw [e] at p
    exact vok p hr hd
  · obtain ⟨a, vs, rfl, t, q⟩ := id hd
    exact sl_list pins s σ H _ v vl vu lo hi sl Q I rx hs pl pu ⟨a, vs, rfl, t.sq, fun p' hp => new_lst p hr hp (q.cut lo hi)⟩
  · obtain rfl := hd
    obtain ⟨hz, p⟩ := ifno p
    exact C8.sl_txt pins s σ H _ v vl vu lo hi sl Q I rx hs pl pu ⟨_, rfl, hz, vok p hr rfl⟩
  · obtain ⟨o, e1, p⟩ := onRef_post p
    split at p
    · obtain ⟨a, vs, rfl, m, hl, q⟩ := HRlist hr hd e1
      exact sl_list pins s σ H _ v vl vu lo hi sl Q I rx hs pl pu ⟨a, vs, rfl, .of hl, fun p' hp => new_lst p hr hp (q.cut lo hi)⟩
    · exact p.elim
  · exact p.elim
end

/-! ### methods of the built-in types -/
def MtD (X : Cx) (id : String) (g : D → List D → M D) : Prop := ∀ (W : WX) (σ' : L2.St), MtR X id fun x xs H Q => ∃ μ A d ds, HR X.K X.prog X.w μ H A ∧ DV X.K μ H d x ∧ DVs X.K μ H ds xs ∧ post X.K X.prog X.w W σ' μ H (g d ds A) (vQ X.K Q)
/-- a number's list, written -/
def onLst (d : D) (f : Nat → List D → M D) : M D := match d with
  | .ref n => onRef n fun o => match o with
    | .lst xs => f n xs
    | _ => noM
  | _ => noM
def onDic (d : D) (f : Nat → List (D × D) → M D) : M D := match d with
  | .ref n => onRef n fun o => match o with
    | .dic xs => f n xs
    | _ => noM
  | _ => noM
def andThen (m : M Unit) (d : D) : M D := fun A => match m A with
  | .ok _ A' => .ok d A'
  | .ex c fs A' => .ex c fs A'
  | .no => .no
def appendD (d : D) (ds : List D) : M D := onLst d fun n xs => match ds with
  | [y] => if xs.length < sizeLine then andThen (put n (.lst (xs ++ [y]))) .non else noM
  | _ => noM
def extendD (d : D) (ds : List D) : M D := onLst d fun n xs => match ds with
  | [y] => onLst y fun _ ys => if xs.length + ys.length ≤ sizeLine then andThen (put n (.lst (xs ++ ys))) .non else noM
  | _ => noM
def lpopD (d : D) (ds : List D) : M D := onLst d fun n xs => match ds with
  | [] => (match xs[xs.length - 1]? with
    | some y => andThen (put n (.lst xs.dropLast)) y
    | none => noM)
  | [.int i] => (match ixN xs.length i with
    | some k => (match xs[k]? with
      | some y => andThen (put n (.lst (xs.eraseIdx k))) y
      | none => noM)
    | none => noM)
  | _ => noM
def dgetD (d : D) (ds : List D) : M D := onDic d fun _ kvs => match ds with
  | [k] => if dOk k kvs = true then ret ((dLook k kvs).getD .non) else noM
  | [k, e] => if dOk k kvs = true then ret ((dLook k kvs).getD e) else noM
  | _ => noM
def dpopD (d : D) (ds : List D) : M D := onDic d fun n kvs => match ds with
  | [k] => if dOk k kvs = true then (match dLook k kvs with
    | some v => andThen (put n (.dic (dDrop k kvs))) v
    | none => noM) else noM
  | [k, e] => if dOk k kvs = true then (match dLook k kvs with
    | some v => andThen (put n (.dic (dDrop k kvs))) v
    | none => ret e) else noM
  | _ => noM
/-- the first place of an equal one -/
def placeIn (A : AH) (f : List PyData → PyData) (x : D) (xs : List D) : Option Nat := match pyH A x, D.pys (lkH A 7) xs with
  | some d, some ds => if SeqAt.shaped d = true ∧ SeqAt.shaped (f ds) = true ∧ true ∈ ds.map (fun z => PyData.eqv z d) then some ((ds.map fun z => PyData.eqv z d).idxOf true) else none
  | _, _ => none
def placeD (f : List PyData → PyData) (y : D) (xs : List D) : M D := fun A => opt ((placeIn A f y xs).map fun (j : Nat) => D.int j) A
def lindexD (d : D) (ds : List D) : M D := match ds with
  | [y] => (match d with
    | .frl xs => placeD .list y xs
    | d => onLst d fun _ xs => placeD .list y xs)
  | _ => noM
def tindexD (d : D) (ds : List D) : M D := match d, ds with
  | .tup xs, [y] => placeD .tuple y xs
  | _, _ => noM
section
variable {K : PySem.W.Frag} {P : Program} {w : World} {W : WX} {σ : L2.St} {μ : List Addr} {H : Hp} {A : AH}
theorem onLst_post {d : D} {x : V} {f : Nat → List D → M D} {Q : List Addr → Hp → D → AH → Prop} (h : post K P w W σ μ H (onLst d f A) Q) (hr : HR K P w μ H A) (hd : DV K μ H d x) :
    ∃ n xs a vs, d = .ref n ∧ A[n]? = some (.lst xs) ∧ x = .ref a ∧ μ[n]? = some a ∧ H a = some (.lst vs) ∧ DVs K μ H xs vs ∧ post K P w W σ μ H (f n xs A) Q := by
  cases d with
  | ref n =>
    have h : post K P w W σ μ H (onRef n (fun o => match o with
      | .lst xs => f n xs
      | _ => noM) A) Q := h
    obtain ⟨o, e, h⟩ := onRef_post h
    cases o with
    | lst xs =>
      obtain ⟨a, rfl, m⟩ := hd
      obtain ⟨vs, q1, q2⟩ := hr.lst e m
      exact ⟨n, xs, a, vs, rfl, e, rfl, m, q1, q2, h⟩
    | _ => exact h.elim
  | _ => exact h.elim
theorem onDic_post {d : D} {x : V} {f : Nat → List (D × D) → M D} {Q : List Addr → Hp → D → AH → Prop} (h : post K P w W σ μ H (onDic d f A) Q) (hd : DV K μ H d x) :
    ∃ n kvs a, d = .ref n ∧ A[n]? = some (.dic kvs) ∧ x = .ref a ∧ μ[n]? = some a ∧ post K P w W σ μ H (f n kvs A) Q := by
  cases d with
  | ref n =>
    have h : post K P w W σ μ H (onRef n (fun o => match o with
      | .dic xs => f n xs
      | _ => noM) A) Q := h
    obtain ⟨o, e, h⟩ := onRef_post h
    cases o with
    | dic xs =>
      obtain ⟨a, rfl, m⟩ := hd
      exact ⟨n, xs, a, rfl, e, rfl, m, h⟩
    | _ => exact h.elim
  | _ => exact h.elim
theorem put_post2 {n : Nat} {o : AO} {u : HO} {a : Addr} {d : D} {v : V} {Q : VK} (h : post K P w W σ μ H (andThen (put n o) d A) (vQ K Q)) (hr : HR K P w μ H A) (m : μ[n]? = some a)
    (q : OR K P w μ (upd H a u) a o) (hd : DV K μ (upd H a u) d v) : Q v (upd H a u) :=
  h μ (upd H a u) (Le.put (List.mem_of_getElem? m)) (hr.put m q) v hd
theorem one_dv {d : D} {xs : List V} (h : DVs K μ H [d] xs) : ∃ v, xs = [v] ∧ DV K μ H d v := by
  obtain ⟨v, r, rfl, h1, h2⟩ := h
  rw [show r = [] from h2]
  exact ⟨v, rfl, h1⟩
theorem two_dv {d e : D} {xs : List V} (h : DVs K μ H [d, e] xs) : ∃ v u, xs = [v, u] ∧ DV K μ H d v ∧ DV K μ H e u := by
  obtain ⟨v, r, rfl, h1, h2⟩ := h
  obtain ⟨u, rfl, h3⟩ := one_dv h2
  exact ⟨v, u, rfl, h1, h3⟩
theorem zero_dv {xs : List V} (h : DVs K μ H [] xs) : xs = [] := h
end
section
variable {X : Cx}
theorem DVs.dropLast {K : PySem.W.Frag} {μ : List Addr} {H : Hp} {xs : List D} {vs : List V} (h : DVs K μ H xs vs) : DVs K μ H xs.dropLast vs.dropLast := by
  rw [List.dropLast_eq_take, List.dropLast_eq_take, h.length]
  exact h.take _
theorem mt_d_append : MtD X "list.append" appendD := by
  intro W σ' pins s σ H x xs v us Q I rx rs h
  obtain ⟨μ, A, d, ds, hr, hd, hs, p⟩ := h
  unfold appendD at p
  obtain ⟨n, ys, a, vs, rfl, e1, rfl, m, hl, q, p⟩ := onLst_post p hr hd
  split at p
  · obtain ⟨hz, p⟩ := ifno p
    obtain ⟨y, rfl, hy⟩ := one_dv hs
    refine mt_append pins s σ H _ _ v us Q I rx rs ⟨a, vs, y, rfl, rfl, hl, by rw [q.length]; exact hz, ?_⟩
    exact put_post2 p hr m ⟨_, upd_same, (q.app (DVs.cons (ds := []) (vs := []) hy rfl)).le (Le.put (List.mem_of_getElem? m))⟩ rfl
  · exact p.elim
theorem mt_d_extend : MtD X "list.extend" extendD := by
  intro W σ' pins s σ H x xs v us Q I rx rs h
  obtain ⟨μ, A, d, ds, hr, hd, hs, p⟩ := h
  unfold extendD at p
  obtain ⟨n, ys, a, vs, rfl, e1, rfl, m, hl, q, p⟩ := onLst_post p hr hd
  split at p
  · obtain ⟨y, rfl, hy⟩ := one_dv hs
    obtain ⟨n2, zs, b, ws, rfl, e2, rfl, m2, hl2, q2, p⟩ := onLst_post p hr hy
    obtain ⟨hz, p⟩ := ifno p
    refine mt_extend pins s σ H _ _ v us Q I rx rs ⟨a, b, vs, ws, rfl, rfl, hl, hl2, by rw [q.length, q2.length]; exact hz, ?_⟩
    exact put_post2 p hr m ⟨_, upd_same, (q.app q2).le (Le.put (List.mem_of_getElem? m))⟩ rfl
  · exact p.elim
theorem mt_d_pop : MtD X "list.pop" lpopD := by
  intro W σ' pins s σ H x xs v us Q I rx rs h
  obtain ⟨μ, A, d, ds, hr, hd, hs, p⟩ := h
  unfold lpopD at p
  obtain ⟨n, ys, a, vs, rfl, e1, rfl, m, hl, q, p⟩ := onLst_post p hr hd
  have hm : a ∈ μ := List.mem_of_getElem? m
  split at p
  · cases e2 : ys[ys.length - 1]? with
    | none => simp only [e2] at p; exact p.elim
    | some y =>
      simp only [e2] at p
      obtain ⟨z, e3, hz⟩ := q.get e2
      obtain rfl := zero_dv hs
      refine mt_pop pins s σ H _ _ v us Q I rx rs ⟨a, vs, z, rfl, rfl, hl, by rw [q.length]; exact e3, ?_⟩
      exact put_post2 p hr m ⟨_, upd_same, q.dropLast.le (Le.put hm)⟩ (hz.le (Le.put hm))
  · rename_i i _
    cases e2 : ixN ys.length i with
    | none => simp only [e2] at p; exact p.elim
    | some k =>
      simp only [e2] at p
      cases e3 : ys[k]? with
      | none => simp only [e3] at p; exact p.elim
      | some y =>
        simp only [e3] at p
        obtain ⟨z, e4, hz⟩ := q.get e3
        obtain ⟨w, rfl, rfl⟩ := one_dv hs
        obtain ⟨h1, h2, h3, h4⟩ := ixN_seq e2
        have hn := line63
        have hl2 : vs.length ≤ sizeLine := (I.lstM hl).1
        have ql := q.length
        refine mt_popAt pins s σ H _ _ v us Q I rx rs ⟨a, vs, i, k, z, rfl, rfl, hl, by omega, by omega, by rw [ql]; exact h1, e4, ?_⟩
        exact put_post2 p hr m ⟨_, upd_same, (q.erase k).le (Le.put hm)⟩ (hz.le (Le.put hm))
  · exact p.elim
theorem mt_d_get (hu : X.A.units + 64 < cLine) : MtD X "dict.get" dgetD := by
  intro W σ' pins s σ H x xs v us Q I rx rs h
  obtain ⟨μ, A, d, ds, hr, hd, hs, p⟩ := h
  unfold dgetD at p
  obtain ⟨n, kvs, a, rfl, e1, rfl, m, p⟩ := onDic_post p hd
  cases rx
  have fin : ∀ {k e : D} {y r : V} {uy ur : Value}, dOk k kvs = true → DV X.K μ H k y → RelV y uy → DV X.K μ H e r → RelV r ur → post X.K X.prog X.w W σ' μ H (.ok ((dLook k kvs).getD e) A) (vQ X.K Q) →
      (∀ {H' : Hp} {o : Option V}, Inv X pins σ H' s → DGet H' a y o → (∀ w' s', Inv X pins σ H' s' → RelV (o.getD r) w' → EP X pins σ Q w' s') → wpAny (model X.prog X.w) X.A (call (.builtin "dict.get") (.ref a :: us)) (EP X pins σ Q) X.xe s) →
      (∀ {b : Addr} {q : NestedKey} {zs : List (NestedKey × Addr × Value)}, uy = .ref b → (nestedKind X.prog X.w).is s.heap q b → (a == sysModules) = false → s.heap.DictOfH (nestedKind X.prog X.w) a zs →
        (∀ t, EP X pins σ Q (((atKey zs q).map (·.2)).getD ur) { s with toks := t }) → wpAny (model X.prog X.w) X.A (call (.builtin "dict.get") (.ref a :: us)) (EP X pins σ Q) X.xe s) →
      wpAny (model X.prog X.w) X.A (call (.builtin "dict.get") (.ref a :: us)) (EP X pins σ Q) X.xe s := by
    intro k e y r uy ur hk hy ry he rr p f1 f2
    rcases dOk_cases hk with ⟨k1, ks⟩ | ⟨k1, ks⟩
    · obtain ⟨H', I', hr', l, ps, ea, kd⟩ := dic_as1 I hr e1 m ks
      obtain ⟨q, hq, hv⟩ := sort1 (K := X.K) (μ := μ) (H := H) k1
      obtain rfl := hv _ hy
      have z := kd.look hq
      refine f1 I' (DGet.k (k := q) ea) fun w' s' I2 rw' => ⟨_, H', I2, rw', ?_⟩
      cases e2 : dLook k kvs with
      | none =>
        rw [e2] at z p
        rw [z]
        exact vok (p.le l) hr' (he.le l)
      | some d =>
        rw [e2] at z p
        obtain ⟨v, e3, dz⟩ := z
        rw [e3]
        exact vok (p.le l) hr' dz
    · obtain ⟨H', I', hr', l, o0, zs, ea, hb, hl, dh, td⟩ := dic_as2 I hr e1 m ks
      obtain ⟨q, hq, hz', hv⟩ := sort2 (K := X.K) (μ := μ) (H := H) k1
      obtain ⟨b, rfl⟩ := hv _ hy
      have hi := nk_is I k (.ref b) uy q hy ry hq
      cases ry
      have z := td.look hq
      refine f2 rfl ⟨hi, hz'⟩ hb dh fun t => ?_
      cases e2 : dLook k kvs with
      | none =>
        rw [e2] at z p
        rw [z]
        exact ⟨r, H', I'.tok _, rr, vok (p.le l) hr' (he.le l)⟩
      | some d =>
        rw [e2] at z p
        obtain ⟨c, u, v, e3, rv, dz⟩ := z
        rw [e3]
        exact ⟨v, H', I'.tok _, rv, vok (p.le l) hr' dz⟩
  split at p
  · obtain ⟨hk, p⟩ := ifno p
    obtain ⟨y, rfl, hy⟩ := one_dv hs
    obtain ⟨uy, rfl, ry⟩ := rs.one
    refine fin hk hy ry (e := .non) (r := .non) (ur := .none) rfl rfl p (fun I' g h => d_get1 (by omega) I' g ry h) fun e hi hb dh h => ?_
    subst e
    exact call_meetsIn PySem.F.slot_dict_get dh.typeIs PySem.F.entry_dict_get (PySem.F.args_dict_get_2 _ _) (meetsH_dict_get (nestedKind X.prog X.w) _ _ hb) ⟨show X.A.units + 1 + 8 < cLine by omega, _, _, hi, dh, h _⟩
  · obtain ⟨hk, p⟩ := ifno p
    obtain ⟨y, r, rfl, hy, hr2⟩ := two_dv hs
    obtain ⟨uy, ur, rfl, ry, rr⟩ := rs.two
    refine fin hk hy ry hr2 rr p (fun I' g h => d_get2 (by omega) I' g ry rr h) fun e hi hb dh h => ?_
    subst e
    exact call_meetsIn PySem.F.slot_dict_get dh.typeIs PySem.F.entry_dict_get (PySem.F.args_dict_get_3 _ _ _) (meetsH_dict_get_default (nestedKind X.prog X.w) _ _ hb _) ⟨show X.A.units + 1 + 8 < cLine by omega, _, _, hi, dh, h _⟩
  · exact p.elim
theorem place_at {f : List PyData → PyData} {A : AH} {y : D} {ys : List D} {K : PySem.W.Frag} {P : Program} {w : World} {W : WX} {σ : L2.St} {μ : List Addr} {H : Hp} {Q : VK} (p : post K P w W σ μ H (placeD f y ys A) (vQ K Q)) (hr : HR K P w μ H A) :
    ∃ q qs, pyH A y = some q ∧ D.pys (lkH A 7) ys = some qs ∧ SeqAt.shaped q = true ∧ SeqAt.shaped (f qs) = true ∧ true ∈ qs.map (fun z => PyData.eqv z q) ∧ Q (.int ((qs.map fun z => PyData.eqv z q).idxOf true : Nat)) H := by
  unfold placeD at p
  obtain ⟨r, e, p⟩ := opt_post p
  obtain ⟨j, e1, rfl⟩ := Option.map_eq_some_iff.mp e
  unfold placeIn at e1
  cases h1 : pyH A y with
  | none => simp only [h1] at e1; cases e1
  | some q =>
    cases h2 : D.pys (lkH A 7) ys with
    | none => simp only [h1, h2] at e1; cases e1
    | some qs =>
      simp only [h1, h2] at e1
      split at e1
      · rename_i c
        cases e1
        exact ⟨q, qs, rfl, rfl, c.1, c.2.1, c.2.2, vok p hr rfl⟩
      · cases e1
theorem items_of {s : Shared} {its : List Value} {qs : List PyData} {q : PyData} {as bs : List Addr} {u : Value} {A : Around} (r : ReadsAll s.heap its qs as) (r1 : Reads s.heap u q bs) (hc : PyData.canLayAll0 qs = true) (hd : q.canLay0 = true) (hu : A.units + 1 + min (PyData.depthAll qs) q.depth < cLine) :
    SeqAt.ItemsEq A.in1 s its (qs.map fun z => PyData.eqv z q) u true := by
  have hm := SeqAt.readsAll_map qs its as hc r
  refine ⟨by rw [List.length_map, ← hm, List.length_map], fun j h1 h2 => ?_⟩
  have z := SeqAt.items_eqAt (vs := its.toArray) r r1 hc hd hu its[j] (by simp)
  rw [List.getElem_map]
  have e : qs[j]'(by rw [List.length_map] at h2; exact h2) = SeqAt.readOf s.heap its[j] := by
    have g : qs = its.map (SeqAt.readOf s.heap) := hm.symm
    subst g
    rw [List.getElem_map]
  rw [e]
  have b : ∀ c : Bool, decide (c = true) = c := fun c => by cases c <;> rfl
  rw [b]
  exact z
theorem mt_d_lindex (hu : X.A.units + 66 < cLine) : MtD X "list.index" lindexD := by
  intro W σ' pins s σ H x xs v us Q I rx rs h
  obtain ⟨μ, A, d, ds, hr, hd, hs, p⟩ := h
  unfold lindexD at p
  have go : ∀ {y : D} {ys : List D} {a : Addr} {vs : List V}, x = .ref a → SqL X.K H a vs → DVs X.K μ H ys vs → DVs X.K μ H [y] xs → post X.K X.prog X.w W σ' μ H (placeD .list y ys A) (vQ X.K Q) → wpAny (model X.prog X.w) X.A (call (.builtin "list.index") (v :: us)) (EP X pins σ Q) X.xe s := by
    intro y ys a vs e0 hl hv hs p
    obtain ⟨q, qs, e1, e2, s1, s2, ht, q1⟩ := place_at p hr
    obtain ⟨y', rfl, hy⟩ := one_dv hs
    obtain ⟨uy, rfl, ry⟩ := rs.one
    subst e0
    cases rx
    obtain ⟨bs, r1⟩ := Dp.reads I q y' uy (pyH_dp hr hy e1) ry
    obtain ⟨its, rv, pl, hz⟩ := I.list hl
    obtain ⟨as, r2⟩ := Dp.readsAll I qs vs its (pys_dp (lk_dp hr 7) ys vs qs hv e2) rv
    have hi := items_of r2 r1 (SeqAt.canLay_of_shaped s2) (SeqAt.canLay_of_shaped s1) (room_in_shaped s1 (A := X.A) (by omega))
    exact SeqAt.call_list_index pl.isList hi (by rw [← hi.1, ← rv.length]; exact hz) ht ⟨.int _, H, I.tok _, ⟨_, rfl⟩, q1⟩
  split at p
  · split at p
    · obtain ⟨a, vs, rfl, t, q⟩ := id hd
      exact go rfl t.sq q hs p
    · obtain ⟨n, ys, a, vs, rfl, e1, rfl, m, hl, q, p⟩ := onLst_post p hr hd
      exact go rfl (.of hl) q hs p
  · exact p.elim
theorem mt_d_tindex (hu : X.A.units + 66 < cLine) : MtD X "tuple.index" tindexD := by
  intro W σ' pins s σ H x xs v us Q I rx rs h
  obtain ⟨μ, A, d, ds, hr, hd, hs, p⟩ := h
  unfold tindexD at p
  split at p
  · obtain ⟨q, qs, e1, e2, s1, s2, ht, q1⟩ := place_at p hr
    obtain ⟨y', rfl, hy⟩ := one_dv hs
    obtain ⟨uy, rfl, ry⟩ := rs.one
    obtain ⟨a, vs, rfl, t, hv⟩ := id hd
    cases rx
    obtain ⟨bs, r1⟩ := Dp.reads I q y' uy (pyH_dp hr hy e1) ry
    obtain ⟨its, rv, pl, hz⟩ := I.tuple t.sq
    obtain ⟨as, r2⟩ := Dp.readsAll I qs vs its (pys_dp (lk_dp hr 7) _ vs qs hv e2) rv
    have hi := items_of r2 r1 (SeqAt.canLay_of_shaped s2) (SeqAt.canLay_of_shaped s1) (room_in_shaped s1 (A := X.A) (by omega))
    exact SeqAt.call_tuple_index pl hi ht ⟨.int _, H, I.tok _, ⟨_, rfl⟩, q1⟩
  · exact p.elim
end
end Pi

/-! Pi8: tests; statements; targets; loops. -/
namespace Pi
open PyProof.Rows PySem L2 PySem.Spec

/-! ### tests -/
section
variable {X : Cx} {W : WX} {a b c e : Expr} {es : List Expr} {ma mb : EM} {ta tb : TM} {pos : Pos}
/-- a test of any whole -/
abbrev DW (X : Cx) (W : WX) (e : Expr) (m : TM) : Prop := PW X e (tT X.K X.prog X.w W m)
theorem PW.of {t t' : TT} (h : PW X e t) (i : ∀ σ H Q, t' σ H Q → t σ H Q) : PW X e t' := ⟨fun whole pins s σ H Q I q => h.run whole pins s σ H Q I (i σ H Q q)⟩
theorem dt_truth (ha : DE X W a ma) (he : ∀ whole, isTrue a X.env whole = (do let v ← whole; standAt a.pos; holding [v] (truthy v))) : DT X W a (tOf ma) :=
  PT.of (pt_truth ha he) fun σ H Q h => by
    obtain ⟨μ, A, ρ, hr, fr, p⟩ := h
    refine ⟨μ, A, ρ, hr, fr, p.bnd.imp fun μ' H' d A' l r q v dv => ?_⟩
    cases e : truD A' d with
    | none => simp only [e] at q; exact q.elim
    | some k =>
      simp only [e] at q
      exact ⟨k, tru_d r dv e, q μ' H' (Le.refl _ _) r⟩
def bOf (x : D) : M Bool := match x with
  | .bl b => ret b
  | _ => noM
/-- a comparison as a test -/
def tCmp (g : D → D → M D) (a b : EM) : TM := fun ρ => bnd (a ρ) fun x => bnd (b ρ) fun y => bnd (g x y) bOf
theorem dt_cmp {op : CmpOp} {g : D → D → M D} (ho : OpD X (compareOp op) g) (ha : DE X W a ma) (hb : DE X W b mb) (hm : behindInMarks op b = false) : DT X W (.Compare a [op] [b] pos) (tCmp g ma mb) :=
  ⟨fun pins s σ H Q I h => (pt_cmpR (ho W σ) ha hb hm).run pins s σ H Q I (by
    obtain ⟨μ, A, ρ, hr, fr, p⟩ := h
    refine ⟨μ, A, ρ, hr, fr, p.bnd.imp fun μ1 H1 d A1 l1 r1 q1 v dv => ⟨μ1, A1, ρ, r1, fr.le l1, q1.bnd.imp fun μ2 H2 d2 A2 l2 r2 q2 v2 dv2 => ⟨μ2, A2, d, d2, r2, dv.le l2, dv2, q2.bnd.imp fun μ3 H3 d3 A3 l3 r3 q3 v3 dv3 => ?_⟩⟩⟩
    cases d3 with
    | bl k =>
      obtain rfl := dv3
      exact ⟨k, rfl, q3 μ3 H3 (Le.refl _ _) r3⟩
    | _ => exact q3.elim)⟩
theorem tT_bnd {m : TM} {k : Fr → Bool → M Bool} {σ : L2.St} {H : Hp} {Q : Bool → Hp → Prop} (h : tT X.K X.prog X.w W (fun ρ => bnd (m ρ) (k ρ)) σ H Q) :
    tT X.K X.prog X.w W m σ H fun c H1 => tT X.K X.prog X.w W (fun ρ => k ρ c) σ H1 Q := by
  obtain ⟨μ, A, ρ, hr, fr, p⟩ := h
  exact ⟨μ, A, ρ, hr, fr, p.bnd.imp fun μ' H' c A' l r q => ⟨μ', A', ρ, r, fr.le l, q⟩⟩
theorem tT_ret {c : Bool} {σ : L2.St} {H : Hp} {Q : Bool → Hp → Prop} (h : tT X.K X.prog X.w W (fun _ => ret c) σ H Q) : Q c H := by
  obtain ⟨μ, A, ρ, hr, fr, p⟩ := h
  exact p μ H (Le.refl _ _) hr
theorem tand_of {ta tb : TM} {σ : L2.St} {H : Hp} {Q : Bool → Hp → Prop} (h : tT X.K X.prog X.w W (tAnd ta tb) σ H Q) : L2.tAnd (tT X.K X.prog X.w W ta) (tT X.K X.prog X.w W tb) σ H Q := by
  have z := tT_bnd h
  refine (show tT X.K X.prog X.w W ta σ H _ from ?_)
  obtain ⟨μ, A, ρ, hr, fr, p⟩ := z
  refine ⟨μ, A, ρ, hr, fr, p.imp fun μ' H' c A' l r q => ?_⟩
  show if c = true then _ else _
  cases c with
  | true => exact q
  | false => exact tT_ret q
theorem tor_of {ta tb : TM} {σ : L2.St} {H : Hp} {Q : Bool → Hp → Prop} (h : tT X.K X.prog X.w W (tOr ta tb) σ H Q) : L2.tOr (tT X.K X.prog X.w W ta) (tT X.K X.prog X.w W tb) σ H Q := by
  have z := tT_bnd h
  refine (show tT X.K X.prog X.w W ta σ H _ from ?_)
  obtain ⟨μ, A, ρ, hr, fr, p⟩ := z
  refine ⟨μ, A, ρ, hr, fr, p.imp fun μ' H' c A' l r q => ?_⟩
  show if c = true then _ else _
  cases c with
  | true => exact tT_ret q
  | false => exact q
theorem dw_and1 (ha : DT X W a ta) : DW X W (.BoolOp .And [a] pos) ta := pw_and1 ha
theorem dw_or1 (ha : DT X W a ta) : DW X W (.BoolOp .Or [a] pos) ta := pw_or1 ha
theorem dw_and (ha : DT X W a ta) (hb : DW X W (.BoolOp .And (b :: es) pos) tb) : DW X W (.BoolOp .And (a :: b :: es) pos) (tAnd ta tb) := PW.of (pw_and ha hb) fun _ _ _ h => tand_of h
theorem dw_or (ha : DT X W a ta) (hb : DW X W (.BoolOp .Or (b :: es) pos) tb) : DW X W (.BoolOp .Or (a :: b :: es) pos) (tOr ta tb) := PW.of (pw_or ha hb) fun _ _ _ h => tor_of h
theorem dt_not (ha : DT X W a ta) : DT X W (.UnaryOp .Not a pos) (tNot ta) := PT.of (pt_not ha) fun σ H Q h => by
  obtain ⟨μ, A, ρ, hr, fr, p⟩ := tT_bnd h
  exact ⟨μ, A, ρ, hr, fr, p.imp fun μ' H' c A' l r q => tT_ret q⟩
/-! as values -/
theorem de_one {op : BoolOp} (ha : DE X W a ma) : DE X W (.BoolOp op [a] pos) ma := pe_one ha
theorem de_and (ha : DE X W a ma) (hb : DE X W (.BoolOp .And (b :: es) pos) mb) : DE X W (.BoolOp .And (a :: b :: es) pos) (eAnd ma mb) := PE.of (pe_andT ha hb) fun σ H Q h => by
  obtain ⟨μ, A, ρ, hr, fr, p⟩ := h
  refine ⟨μ, A, ρ, hr, fr, p.bnd.imp fun μ' H' d A' l r q v dv => ?_⟩
  cases e : truD A' d with
  | none => simp only [e] at q; exact q.elim
  | some k =>
    simp only [e] at q
    refine ⟨k, tru_d r dv e, ?_⟩
    cases k with
    | true => exact ⟨μ', A', ρ, r, fr.le l, q⟩
    | false => exact vok q r dv
theorem de_or (ha : DE X W a ma) (hb : DE X W (.BoolOp .Or (b :: es) pos) mb) : DE X W (.BoolOp .Or (a :: b :: es) pos) (eOr ma mb) := PE.of (pe_orT ha hb) fun σ H Q h => by
  obtain ⟨μ, A, ρ, hr, fr, p⟩ := h
  refine ⟨μ, A, ρ, hr, fr, p.bnd.imp fun μ' H' d A' l r q v dv => ?_⟩
  cases e : truD A' d with
  | none => simp only [e] at q; exact q.elim
  | some k =>
    simp only [e] at q
    refine ⟨k, tru_d r dv e, ?_⟩
    cases k with
    | true => exact vok q r dv
    | false => exact ⟨μ', A', ρ, r, fr.le l, q⟩
theorem de_not (ha : DE X W a ma) : DE X W (.UnaryOp .Not a pos) (eNot ma) := PE.of (pe_notT ha) fun σ H Q h => by
  obtain ⟨μ, A, ρ, hr, fr, p⟩ := h
  refine ⟨μ, A, ρ, hr, fr, p.bnd.imp fun μ' H' d A' l r q v dv => ?_⟩
  cases e : truD A' d with
  | none => simp only [e] at q; exact q.elim
  | some k =>
    simp only [e] at q
    exact ⟨k, tru_d r dv e, vok q r rfl⟩
theorem de_if {tc : TM} (hc : DT X W c tc) (ha : DE X W a ma) (hb : DE X W b mb) : DE X W (.IfExp c a b pos) (eIf tc ma mb) := PE.of (pe_ifExp hc ha hb) fun σ H Q h => by
  obtain ⟨μ, A, ρ, hr, fr, p⟩ := h
  refine ⟨μ, A, ρ, hr, fr, p.bnd.imp fun μ' H' k A' l r q => ?_⟩
  show if k = true then _ else _
  cases k with
  | true => exact ⟨μ', A', ρ, r, fr.le l, q⟩
  | false => exact ⟨μ', A', ρ, r, fr.le l, q⟩
/-- a op b op' c -/
def eChain (g g' : D → D → M D) (a b c : EM) : EM := fun ρ => bnd (a ρ) fun x => bnd (b ρ) fun y => bnd (bnd (g x y) bOf) fun k => if k = true then bnd (c ρ) (g' y) else ret (.bl false)
theorem de_chain {op op' : CmpOp} {g g' : D → D → M D} {mc : EM} (ho : OpD X (compareOp op) g) (ho' : OpD X (compareOp op') g') (ha : DE X W a ma) (hb : DE X W b mb) (hc : DE X W c mc) (hm : lastMarks [op, op'] [b, c] = false) :
    DE X W (.Compare a [op, op'] [b, c] pos) (eChain g g' ma mb mc) := ⟨fun pins s σ H Q I h => (pe_chain (ho W σ) (ho' W σ) ha hb hc hm).run pins s σ H Q I (by
    obtain ⟨μ, A, ρ, hr, fr, p⟩ := h
    refine ⟨μ, A, ρ, hr, fr, p.bnd.imp fun μ1 H1 d A1 l1 r1 q1 v dv => ⟨μ1, A1, ρ, r1, fr.le l1, q1.bnd.imp fun μ2 H2 d2 A2 l2 r2 q2 v2 dv2 => ⟨μ2, A2, d, d2, r2, dv.le l2, dv2, q2.bnd.bnd.imp fun μ3 H3 d3 A3 l3 r3 q3 v3 dv3 => ?_⟩⟩⟩
    cases d3 with
    | bl k =>
      obtain rfl := dv3
      refine ⟨k, rfl, ?_⟩
      have q3 := q3 μ3 H3 (Le.refl _ _) r3
      cases k with
      | true => exact ⟨μ3, A3, ρ, r3, ((fr.le l1).le l2).le l3, q3.bnd.imp fun μ4 H4 d4 A4 l4 r4 q4 v4 dv4 => ⟨μ4, A4, d2, d4, r4, (dv2.le l3).le l4, dv4, q4⟩⟩
      | false => exact vok q3 r3 rfl
    | _ => exact q3.elim)⟩
def tChn (g g' : D → D → M D) (a b c : EM) : TM := fun ρ => bnd (eChain g g' a b c ρ) bOf
theorem dt_chain {op op' : CmpOp} {g g' : D → D → M D} {mc : EM} (ho : OpD X (compareOp op) g) (ho' : OpD X (compareOp op') g') (ha : DE X W a ma) (hb : DE X W b mb) (hc : DE X W c mc) (hm : lastMarks [op, op'] [b, c] = false) :
    DT X W (.Compare a [op, op'] [b, c] pos) (tChn g g' ma mb mc) := ⟨fun pins s σ H Q I h => (pt_chain (ho W σ) (ho' W σ) ha hb hc hm).run pins s σ H Q I (by
    obtain ⟨μ, A, ρ, hr, fr, p⟩ := h
    refine ⟨μ, A, ρ, hr, fr, p.bnd.bnd.imp fun μ1 H1 d A1 l1 r1 q1 v dv => ⟨μ1, A1, ρ, r1, fr.le l1, q1.bnd.imp fun μ2 H2 d2 A2 l2 r2 q2 v2 dv2 => ⟨μ2, A2, d, d2, r2, dv.le l2, dv2, q2.bnd.bnd.imp fun μ3 H3 d3 A3 l3 r3 q3 v3 dv3 => ?_⟩⟩⟩
    cases d3 with
    | bl k =>
      obtain rfl := dv3
      refine ⟨k, rfl, ?_⟩
      have q3 := q3 μ3 H3 (Le.refl _ _) r3
      cases k with
      | true =>
        refine ⟨μ3, A3, ρ, r3, ((fr.le l1).le l2).le l3, q3.bnd.imp fun μ4 H4 d4 A4 l4 r4 q4 v4 dv4 => ⟨μ4, A4, d2, d4, r4, (dv2.le l3).le l4, dv4, q4.imp fun μ5 H5 d5 A5 l5 r5 q5 v5 dv5 => ?_⟩⟩
        cases d5 with
        | bl k5 =>
          obtain rfl := dv5
          exact ⟨k5, rfl, q5 μ5 H5 (Le.refl _ _) r5⟩
        | _ => exact q5.elim
      | false => exact ⟨false, rfl, q3 μ3 H3 (Le.refl _ _) r3 μ3 H3 (Le.refl _ _) r3⟩
    | _ => exact q3.elim)⟩
end
end Pi

/-! Pi9: statements, targets, loops. -/
namespace Pi
open PyProof.Rows PySem L2 PySem.Spec

/-- how a statement ends -/
inductive RS where
  | nx (ρ : Fr) (A : AH)
  | rt (d : D) (A : AH)
  | bk (ρ : Fr) (A : AH)
  | ct (ρ : Fr) (A : AH)
  | ex (c : Str) (fs : List (Str × D)) (ρ : Fr) (A : AH)
  | no
abbrev SM := Fr → AH → RS
def inE {α : Type} (m : Fr → M α) (k : α → SM) : SM := fun ρ A => match m ρ A with
  | .ok d A' => k d ρ A'
  | .ex c fs A' => .ex c fs ρ A'
  | .no => .no
def sNx : SM := fun ρ A => .nx ρ A
def sSeq (a b : SM) : SM := fun ρ A => match a ρ A with
  | .nx ρ' A' => b ρ' A'
  | r => r
def sExp (m : EM) : SM := inE m fun _ => sNx
def sRet (m : EM) : SM := inE m fun d _ A => .rt d A
def sRetN : SM := fun _ A => .rt .non A
def sIf (c : TM) (a b : SM) : SM := inE c fun k => if k = true then a else b
def sBk : SM := fun ρ A => .bk ρ A
def sCt : SM := fun ρ A => .ct ρ A
def sFail : SM := fun _ _ => .no
/-- a target takes a value -/
abbrev GM := D → Fr → M Fr
def gNam (i : Nat) : GM := fun d ρ => ret (ρ.set i (some d))
def gTuN : List Nat → List D → Fr → Option Fr
  | [], [], ρ => some ρ
  | i :: is, d :: ds, ρ => gTuN is ds (ρ.set i (some d))
  | _, _, _ => none
/-- the items of what is unpacked -/
def itemsOf (A : AH) : D → Option (List D)
  | .tup xs => some xs
  | .frl xs => some xs
  | .ref n => match A[n]? with
    | some (.lst xs) => some xs
    | _ => none
  | _ => none
def gTup (gs : List GM) : GM := fun d ρ A => match itemsOf A d with
  | some ds => if ds.length = gs.length then (go gs ds ρ) A else .no
  | none => .no
where go : List GM → List D → Fr → M Fr
  | [], _, ρ => ret ρ
  | g :: gs, d :: ds, ρ => bnd (g d ρ) fun ρ' => go gs ds ρ'
  | _ :: _, [], _ => noM
def gPut (o i : EM) : GM := fun v ρ => bnd (o ρ) fun x => bnd (i ρ) fun k => bnd (setD x k v) fun _ => ret ρ
def sAsg (m : EM) (g : GM) : SM := inE m fun d ρ A => match g d ρ A with
  | .ok ρ' A' => .nx ρ' A'
  | _ => .no
def sPar (is : List Nat) (t : AM) : SM := inE t fun ds ρ A => match gTuN is ds ρ with
  | some ρ' => .nx ρ' A
  | none => .no
/-- name op= e -/
def sAug (i : Nat) (g : D → D → M D) (m : EM) : SM := fun ρ A => match ρ[i]? with
  | some (some x) => inE m (fun y => inE (fun _ => g x y) fun z ρ A => .nx (ρ.set i (some z)) A) ρ A
  | _ => .no

/-! ### loops -/
def whN (c : TM) (b : SM) : Nat → SM
  | 0 => sFail
  | n + 1 => inE c fun k => if k = true then (fun ρ A => match b ρ A with
    | .nx ρ' A' => whN c b n ρ' A'
    | .ct ρ' A' => whN c b n ρ' A'
    | .bk ρ' A' => .nx ρ' A'
    | r => r) else sNx
open Classical in
/-- runs till it ends -/
noncomputable def lim (f : Nat → SM) : SM := fun ρ A => if h : ∃ n, f n ρ A ≠ .no then f (Classical.choose h) ρ A else .no
noncomputable def sWh (c : TM) (b : SM) : SM := lim (whN c b)
/-- what a loop walks: at turn i its item (some none: the end) -/
abbrev Src := Nat → AH → Option (Option D)
def srcL (xs : List D) : Src := fun i _ => some xs[i]?
def srcR (n : Nat) : Src := fun i A => match A[n]? with
  | some (.lst xs) => some xs[i]?
  | _ => none
def forN (s : Src) (g : GM) (b : SM) : Nat → Nat → SM
  | 0, _ => sFail
  | n + 1, i => fun ρ A => match s i A with
    | none => .no
    | some none => .nx ρ A
    | some (some d) => (match g d ρ A with
      | .ok ρ1 A1 => (match b ρ1 A1 with
        | .nx ρ' A' => forN s g b n (i + 1) ρ' A'
        | .ct ρ' A' => forN s g b n (i + 1) ρ' A'
        | .bk ρ' A' => .nx ρ' A'
        | r => r)
      | _ => .no)
noncomputable def sFor (m : Fr → M Src) (g : GM) (b : SM) : SM := inE m fun s => lim fun n => forN s g b n 0

/-! ### soundness -/
section
variable (K : PySem.W.Frag) (P : Program) (w : World)
def postS (W : WX) (μ : List Addr) (H : Hp) (r : RS) (E : Ends) : Prop := match r with
  | .nx ρ A => ∀ μ' H' σ', Le μ H μ' H' → HR K P w μ' H' A → FR K μ' H' ρ σ' → E.nx σ' H'
  | .rt d A => ∀ μ' H' v, Le μ H μ' H' → HR K P w μ' H' A → DV K μ' H' d v → E.rt v H'
  | .bk ρ A => ∀ μ' H' σ', Le μ H μ' H' → HR K P w μ' H' A → FR K μ' H' ρ σ' → E.bk σ' H'
  | .ct ρ A => ∀ μ' H' σ', Le μ H μ' H' → HR K P w μ' H' A → FR K μ' H' ρ σ' → E.ct σ' H'
  | .ex c fs ρ A => ∀ μ' H' σ' cls dd, Le μ H μ' H' → HR K P w μ' H' A → FR K μ' H' ρ σ' → ExO K μ' H' c fs cls dd → W cls dd σ' H'
  | .no => False
def tS (W : WX) (m : SM) : TS := fun E σ H => ∃ μ A ρ, HR K P w μ H A ∧ FR K μ H ρ σ ∧ postS K P w W μ H (m ρ A) E
/-- what lets nothing out -/
def W0 : WX := fun _ _ _ _ => False
def tG (g : GM) : TG := fun v σ H Q => ∃ μ A ρ d, HR K P w μ H A ∧ FR K μ H ρ σ ∧ DV K μ H d v ∧ post K P w W0 σ μ H (g d ρ A) (fun μ' H' ρ' _ => ∀ σ', FR K μ' H' ρ' σ' → Q σ' H')
def tGs (gs : List GM) : TGs := fun vs σ H Q => ∃ μ A ρ ds, HR K P w μ H A ∧ FR K μ H ρ σ ∧ DVs K μ H ds vs ∧ ds.length = gs.length ∧ post K P w W0 σ μ H (gTup.go gs ds ρ A) (fun μ' H' ρ' _ => ∀ σ', FR K μ' H' ρ' σ' → Q σ' H')
/-- what is walked goes as s -/
def Fits (μ0 : List Addr) (H0 : Hp) (s : Src) (J : It) : Prop := ∀ i μ H A, Le μ0 H0 μ H → HR K P w μ H A → (s i A = some none → J.stop i H) ∧
  ∀ d, s i A = some (some d) → J.go i H ∧ ∀ x H', J.yld i H x H' → ∃ μ', Le μ H μ' H' ∧ HR K P w μ' H' A ∧ DV K μ' H' d x
def tI (W : WX) (ms : Fr → M Src) : TI := fun σ H R => ∃ μ A ρ, HR K P w μ H A ∧ FR K μ H ρ σ ∧ post K P w W σ μ H (ms ρ A) (fun μ' H' s _ => ∀ J, Fits K P w μ' H' s J → R J H')
end
section
variable {K : PySem.W.Frag} {P : Program} {w : World} {W : WX} {σ : L2.St} {μ μ1 : List Addr} {H H1 : Hp} {ρ : Fr} {A : AH} {E : Ends}
theorem postS.le {r : RS} (h : postS K P w W μ H r E) (a : Le μ H μ1 H1) : postS K P w W μ1 H1 r E := by
  cases r with
  | nx ρ A => exact fun μ' H' σ' l => h μ' H' σ' (a.trans l)
  | rt d A => exact fun μ' H' v l => h μ' H' v (a.trans l)
  | bk ρ A => exact fun μ' H' σ' l => h μ' H' σ' (a.trans l)
  | ct ρ A => exact fun μ' H' σ' l => h μ' H' σ' (a.trans l)
  | ex c fs ρ A => exact fun μ' H' σ' cls dd l => h μ' H' σ' cls dd (a.trans l)
  | no => exact h
theorem inE_post {α : Type} {m : Fr → M α} {k : α → SM} (h : postS K P w W μ H (inE m k ρ A) E) (f : FR K μ H ρ σ) : post K P w W σ μ H (m ρ A) (fun μ' H' a A' => postS K P w W μ' H' (k a ρ A') E) := by
  unfold inE at h
  cases e : m ρ A with
  | ok a A' =>
    rw [e] at h
    exact fun μ' H' l r => h.le l
  | ex c fs A' =>
    rw [e] at h
    exact fun μ' H' cls dd l r x => h μ' H' σ cls dd l r (f.le l) x
  | no =>
    rw [e] at h
    exact h
theorem FR.set {i : Nat} {d : D} {v : V} (f : FR K μ H ρ σ) (h : DV K μ H d v) : FR K μ H (ρ.set i (some d)) (σ.set i (some v)) := by
  refine ⟨by rw [List.length_set, List.length_set, f.len], fun j e hj => ?_⟩
  by_cases hi : i = j
  · subst hi
    by_cases hl : i < ρ.length
    · rw [List.getElem?_set_self hl] at hj
      cases hj
      exact ⟨v, List.getElem?_set_self (by rw [← f.len]; exact hl), h⟩
    · rw [List.getElem?_eq_none (by rw [List.length_set]; omega)] at hj
      cases hj
  · rw [List.getElem?_set_ne hi] at hj ⊢
    exact f.at_ j e hj
theorem lim_of {f : Nat → SM} (h : postS K P w W μ H (lim f ρ A) E) : ∃ n, postS K P w W μ H (f n ρ A) E := by
  unfold lim at h
  split at h
  · exact ⟨_, h⟩
  · exact h.elim
end
section
variable {X : Cx} {W : WX} {st : Stmt} {sts body orelse : List Stmt} {e c : Expr} {es : List Expr} {m : EM} {a b : SM} {tc : TM} {pos pos' : Pos}
abbrev DS (X : Cx) (W : WX) (st : Stmt) (m : SM) : Prop := PS X st (tS X.K X.prog X.w W m)
abbrev DSs (X : Cx) (W : WX) (st : List Stmt) (m : SM) : Prop := PSs X st (tS X.K X.prog X.w W m)
abbrev DG (X : Cx) (tg : Expr) (g : GM) : Prop := PG X tg (tG X.K X.prog X.w g)
abbrev DGs (X : Cx) (tg : List Expr) (g : List GM) : Prop := PGs X tg (tGs X.K X.prog X.w g)
abbrev DI (X : Cx) (W : WX) (tg it : Expr) (ms : Fr → M Src) : Prop := PI X tg it (tI X.K X.prog X.w W ms)
theorem PS.of {t t' : TS} (h : PS X st t) (i : ∀ E σ H, t' E σ H → t E σ H) : PS X st t' := ⟨fun pins s σ H D I q => h.run pins s σ H D I (i D σ H q)⟩
theorem PSs.of {t t' : TS} (h : PSs X sts t) (i : ∀ E σ H, t' E σ H → t E σ H) : PSs X sts t' := ⟨fun pins s σ H D I q => h.run pins s σ H D I (i D σ H q)⟩
theorem PG.of {t t' : TG} {tg : Expr} (h : PG X tg t) (i : ∀ v σ H Q, t' v σ H Q → t v σ H Q) : PG X tg t' := ⟨fun pins s σ H v u Q I r q => h.run pins s σ H v u Q I r (i v σ H Q q)⟩
theorem PI.of {t t' : TI} {tg it : Expr} (h : PI X tg it t) (i : ∀ σ H R, t' σ H R → t σ H R) : PI X tg it t' := ⟨fun pins s σ H R I q => h.run pins s σ H R I (i σ H R q)⟩
theorem dss_nil : DSs X W [] sNx := PSs.of pss_nil fun E σ H h => by
  obtain ⟨μ, A, ρ, hr, fr, p⟩ := h
  exact p μ H σ (Le.refl _ _) hr fr
theorem dss_cons (h1 : DS X W st a) (h2 : DSs X W sts b) : DSs X W (st :: sts) (sSeq a b) := PSs.of (pss_cons h1 h2) fun E σ H h => by
  obtain ⟨μ, A, ρ, hr, fr, p⟩ := h
  refine ⟨μ, A, ρ, hr, fr, ?_⟩
  unfold sSeq at p
  cases e : a ρ A with
  | nx ρ' A' =>
    rw [e] at p
    exact fun μ' H' σ' l r f => ⟨μ', A', ρ', r, f, postS.le p l⟩
  | rt d A' => rw [e] at p; exact p
  | bk ρ A => rw [e] at p; exact p
  | ct ρ A => rw [e] at p; exact p
  | ex c fs ρ A => rw [e] at p; exact p
  | no => rw [e] at p; exact p
theorem dss_one (h1 : DS X W st a) : DSs X W [st] a := PSs.of (pss_one h1) fun E σ H h => h
theorem ds_pass : DS X W (.Pass pos) sNx := PS.of ps_pass fun E σ H h => by
  obtain ⟨μ, A, ρ, hr, fr, p⟩ := h
  exact p μ H σ (Le.refl _ _) hr fr
theorem ds_break : DS X W (.Break pos) sBk := PS.of ps_break fun E σ H h => by
  obtain ⟨μ, A, ρ, hr, fr, p⟩ := h
  exact p μ H σ (Le.refl _ _) hr fr
theorem ds_continue : DS X W (.Continue pos) sCt := PS.of ps_continue fun E σ H h => by
  obtain ⟨μ, A, ρ, hr, fr, p⟩ := h
  exact p μ H σ (Le.refl _ _) hr fr
theorem ds_expr (he : DE X W e m) (hs : swapsWith e none pos.line X.env = pure false) : DS X W (.Expr e pos) (sExp m) := PS.of (ps_expr he hs) fun E σ H h => by
  obtain ⟨μ, A, ρ, hr, fr, p⟩ := h
  exact ⟨μ, A, ρ, hr, fr, (inE_post p fr).imp fun μ' H' d A' l r q v dv => q μ' H' σ (Le.refl _ _) r (fr.le l)⟩
theorem ds_ret (he : DE X W e m) : DS X W (.Return (some e) pos) (sRet m) := PS.of (ps_ret he) fun E σ H h => by
  obtain ⟨μ, A, ρ, hr, fr, p⟩ := h
  exact ⟨μ, A, ρ, hr, fr, (inE_post p fr).imp fun μ' H' d A' l r q v dv => q μ' H' v (Le.refl _ _) r dv⟩
theorem ds_retN : DS X W (.Return none pos) sRetN := PS.of ps_retN fun E σ H h => by
  obtain ⟨μ, A, ρ, hr, fr, p⟩ := h
  exact p μ H .non (Le.refl _ _) hr rfl
theorem ds_if (hc : DT X W c tc) (h1 : DSs X W sts a) (h2 : DSs X W orelse b) : DS X W (.If c sts orelse pos) (sIf tc a b) := PS.of (ps_if hc h1 h2) fun E σ H h => by
  obtain ⟨μ, A, ρ, hr, fr, p⟩ := h
  refine ⟨μ, A, ρ, hr, fr, (inE_post p fr).imp fun μ' H' k A' l r q => ?_⟩
  show if k = true then _ else _
  cases k with
  | true => exact ⟨μ', A', ρ, r, fr.le l, q⟩
  | false => exact ⟨μ', A', ρ, r, fr.le l, q⟩
theorem ds_asg {tg : Expr} {g : GM} (he : DE X W e m) (hg : DG X tg g) (hs : swapsWithSole [tg] e pos.line X.env = pure false) (hw : swappedStores [tg] e X.env = pure none) (h1 : (assignEach [tg] X.env).map (·.2) = [assign tg X.env]) : DS X W (.Assign [tg] e pos) (sAsg m g) :=
  PS.of (ps_asg he hg hs hw h1) fun E σ H h => by
    obtain ⟨μ, A, ρ, hr, fr, p⟩ := h
    refine ⟨μ, A, ρ, hr, fr, (inE_post p fr).imp fun μ' H' d A' l r q v dv => ⟨μ', A', ρ, d, r, fr.le l, dv, ?_⟩⟩
    cases e : g d ρ A' with
    | ok ρ' A2 =>
      simp only [e] at q
      exact fun μ2 H2 l2 r2 σ' f2 => q μ2 H2 σ' l2 r2 f2
    | ex c fs A2 => simp only [e] at q; exact q.elim
    | no => simp only [e] at q; exact q.elim
theorem ds_set {i : Nat} {x : Str} (hN : X.N.Nodup) (hi : X.N[i]? = some x) (hx : Loc X.env.scope x) (he : DE X W e m) (hs : swapsWith e (some (.Name x pos')) pos.line X.env = pure false) (hf : X.fn x = true ∨ X.env.scope.names.lookup x = some .local) :
    DS X W (.Assign [.Name x pos'] e pos) (sAsg m (gNam i)) := PS.of (ps_set hN hi hx he hs hf) fun E σ H h => by
  obtain ⟨μ, A, ρ, hr, fr, p⟩ := h
  exact ⟨μ, A, ρ, hr, fr, (inE_post p fr).imp fun μ' H' d A' l r q v dv => q μ' H' _ (Le.refl _ _) r ((fr.le l).set dv)⟩
/-! targets -/
theorem dg_name {i : Nat} {x : Str} (hN : X.N.Nodup) (hi : X.N[i]? = some x) (hx : Loc X.env.scope x) (hf : X.fn x = true ∨ X.env.scope.names.lookup x = some .local) : DG X (.Name x pos) (gNam i) := PG.of (pg_name hN hi hx hf) fun v σ H Q h => by
  obtain ⟨μ, A, ρ, d, hr, fr, dv, p⟩ := h
  exact p μ H (Le.refl _ _) hr _ (fr.set dv)
theorem dgs_nil : DGs X [] [] := ⟨fun pins s σ H vs us Q I r h => pgs_nil.run pins s σ H vs us Q I r (by
  obtain ⟨μ, A, ρ, ds, hr, fr, dv, hl, p⟩ := h
  cases ds with
  | nil => exact ⟨dv, p μ H (Le.refl _ _) hr σ fr⟩
  | cons d r => cases hl)⟩
theorem dgs_cons {g : GM} {gs : List GM} (h1 : DG X e g) (h2 : DGs X es gs) (hs : (assignEach (e :: es) X.env).map (·.2) = assign e X.env :: (assignEach es X.env).map (·.2)) : DGs X (e :: es) (g :: gs) :=
  ⟨fun pins s σ H vs us Q I r h => (pgs_cons h1 h2 hs).run pins s σ H vs us Q I r (by
    obtain ⟨μ, A, ρ, ds, hr, fr, dv, hl, p⟩ := h
    cases ds with
    | nil => cases hl
    | cons d dr =>
      obtain ⟨v, vr, rfl, dv1, dv2⟩ := dv
      refine ⟨v, vr, rfl, μ, A, ρ, d, hr, fr, dv1, ?_⟩
      have p : post X.K X.prog X.w W0 σ μ H (bnd (g d ρ) (fun ρ' => gTup.go gs dr ρ') A) _ := p
      exact p.bnd.imp fun μ' H' ρ' A' l r' q σ' f' => ⟨μ', A', ρ', _, r', f', dv2.le l, Nat.succ.inj hl, (by
        cases e : gTup.go gs dr ρ' A' with
        | ok a b => rw [e] at q; exact q
        | ex a b c =>
          rw [e] at q
          exact fun μ1 H1 cls dd l1 r1 x1 => (q μ1 H1 cls dd l1 r1 x1).elim
        | no => rw [e] at q; exact q)⟩)⟩
theorem dg_tup {k : Nat} {gs : List GM} (hc : X.calm = true) (h : DGs X es gs) (hn : (assignEach es X.env).length = gs.length) (hst : (assignEach es X.env).findIdx? (·.1) = none) : DG X (.Tuple es k pos) (gTup gs) := by
  refine ⟨fun pins s σ H v u Q I r hw => ?_⟩
  obtain ⟨μ, A, ρ, d, hr, fr, dv, p⟩ := hw
  unfold gTup at p
  cases e : itemsOf A d with
  | none => simp only [e] at p; exact p.elim
  | some ds =>
    simp only [e] at p
    by_cases hl : ds.length = gs.length
    · rw [if_pos hl] at p
      have lst : ∀ {a : Addr} {vs : List V}, v = .ref a → SqL X.K H a vs → DVs X.K μ H ds vs → wpAny (model X.prog X.w) X.A (assign (.Tuple es k pos) X.env u) (fun _ s' => ∃ σ' H', Inv X pins σ' H' s' ∧ Q σ' H') X.xe s := by
        intro a vs e1 hq hd
        subst e1
        cases r
        obtain ⟨its, rv, pl, hz⟩ := I.list hq
        have hsz : its.toArray.size = (assignEach es X.env).length := by rw [List.size_toArray, ← rv.length, hd.length, hl, hn]
        rw [PyProof.Rows.assign_Tuple]
        refine wpAny_bind (wpAny_standAt ?_)
        unfold unpack
        rw [← hsz, hst]
        refine wpAny_bind (wpAny_holding (PySem.W.kun_itemsOf (I.ok.hd hc) pl.isList fun h' hx => ?_))
        have I1 : Inv X pins σ H { s with heap := h' } := I.kept (t' := s.toks) fun b o e => hx b o (Nat.ne_of_lt (Heap.lt_size e)) e
        exact h.run pins _ σ H vs _ Q I1 (by simpa using rv) ⟨μ, A, ρ, ds, hr, fr, hd, hl, p⟩
      unfold itemsOf at e
      split at e
      · cases e
        obtain ⟨a, vs, rfl, t, q⟩ := dv
        cases r
        obtain ⟨its, rv, ht, hz⟩ := I.tuple t.sq
        refine assign_Tuple_tuple (I.ok.hd hc) ht (by rw [List.size_toArray, ← rv.length, q.length, hl, hn]) hst fun h' hx => ?_
        have I1 : Inv X pins σ H { s with heap := h' } := I.kept (t' := s.toks) fun b o e => hx b o (Nat.ne_of_lt (Heap.lt_size e)) e
        exact h.run pins _ σ H vs _ Q I1 (by simpa using rv) ⟨μ, A, ρ, _, hr, fr, q, hl, p⟩
      · cases e
        obtain ⟨a, vs, rfl, t, q⟩ := dv
        exact lst rfl t.sq q
      · split at e
        · rename_i e1
          cases e
          obtain ⟨a, vs, rfl, m, hq, q⟩ := HRlist hr dv e1
          exact lst rfl (.of hq) q
        · cases e
      · cases e
    · rw [if_neg hl] at p
      exact p.elim
theorem dg_put {o i : Expr} {mo mi : EM} (hu : X.A.units + 64 < cLine) (ho : DE X W0 o mo) (hi : DE X W0 i mi)
    (ha : ∀ v, assign (.Subscript o i pos) X.env v = (do
      let ov ← holding [v] (eval o X.env)
      let iv ← holding [v, ov] (eval i X.env)
      standAt pos
      holding [v, ov, iv] (setItem ov iv v)
      release [v, ov, iv] [])) : DG X (.Subscript o i pos) (gPut mo mi) :=
  ⟨fun pins s σ H v u Q I r h => (pg_sub ho hi (st_d hu W0 σ) ha).run pins s σ H v u Q I r (by
    obtain ⟨μ, A, ρ, d, hr, fr, dv, p⟩ := h
    exact ⟨μ, A, ρ, hr, fr, p.bnd.imp fun μ1 H1 x A1 l1 r1 q1 xv xd => ⟨μ1, A1, ρ, r1, fr.le l1, q1.bnd.imp fun μ2 H2 k A2 l2 r2 q2 kv kd => ⟨μ2, A2, x, k, d, r2, xd.le l2, kd, (dv.le l1).le l2, q2.bnd.imp fun μ3 H3 _ A3 l3 r3 q3 =>
      q3 μ3 H3 (Le.refl _ _) r3 σ (((fr.le l1).le l2).le l3)⟩⟩⟩)⟩
end
end Pi

/-! Pi10: while, for, what is walked; two and three names at once; name op= e. -/
namespace Pi
open PyProof.Rows PySem L2 PySem.Spec
section
variable {X : Cx} {W : WX} {body : List Stmt} {e c : Expr} {m : EM} {b : SM} {tc : TM} {pos pos' : Pos}
theorem ds_while (hp : PassesOwn (model X.prog X.w) X.A X.env X.xe) (hc : DT X W c tc) (hb : DSs X W body b) : DS X W (.While c body [] pos) (sWh tc b) := PS.of (ps_while hp hc hb) fun E σ H h => by
  obtain ⟨μ, A, ρ, hr, fr, p⟩ := h
  obtain ⟨n, p⟩ := lim_of p
  refine ⟨fun n σ H => ∃ μ A ρ, HR X.K X.prog X.w μ H A ∧ FR X.K μ H ρ σ ∧ postS X.K X.prog X.w W μ H (whN tc b n ρ A) E, ⟨n, μ, A, ρ, hr, fr, p⟩, ?_⟩
  rintro n σ H ⟨μ, A, ρ, hr, fr, p⟩
  cases n with
  | zero => exact p.elim
  | succ n =>
    refine ⟨μ, A, ρ, hr, fr, (inE_post p fr).imp fun μ1 H1 k A1 l1 r1 q1 => ?_⟩
    show if k = true then _ else _
    cases k with
    | false => exact q1 μ1 H1 σ (Le.refl _ _) r1 (fr.le l1)
    | true =>
      refine ⟨fun σ H => ∃ μ A ρ, HR X.K X.prog X.w μ H A ∧ FR X.K μ H ρ σ ∧ postS X.K X.prog X.w W μ H (whN tc b n ρ A) E, fun σ' H' z => ⟨n, Nat.lt_succ_self n, z⟩, μ1, A1, ρ, r1, fr.le l1, ?_⟩
      have q1 : postS X.K X.prog X.w W μ1 H1 (match b ρ A1 with
        | .nx ρ' A' => whN tc b n ρ' A'
        | .ct ρ' A' => whN tc b n ρ' A'
        | .bk ρ' A' => .nx ρ' A'
        | r => r) E := q1
      cases e : b ρ A1 with
      | nx ρ' A' => rw [e] at q1; exact fun μ2 H2 σ2 l2 r2 f2 => ⟨μ2, A', ρ', r2, f2, postS.le q1 l2⟩
      | ct ρ' A' => rw [e] at q1; exact fun μ2 H2 σ2 l2 r2 f2 => ⟨μ2, A', ρ', r2, f2, postS.le q1 l2⟩
      | bk ρ' A' => rw [e] at q1; exact fun μ2 H2 σ2 l2 r2 f2 => q1 μ2 H2 σ2 l2 r2 f2
      | rt d A' => rw [e] at q1; exact q1
      | ex c fs ρ' A' => rw [e] at q1; exact q1
      | no => rw [e] at q1; exact q1
theorem ds_for {tg it : Expr} {g : GM} {ms : Fr → M Src} (hp : PassesOwn (model X.prog X.w) X.A X.env X.xe) (hc : X.calm = true) (hi : DI X W tg it ms) (hg : DG X tg g) (hb : DSs X W body b) (hs : ∀ x, foldedSetIterable it X.env x = pure x) :
    DS X W (.For tg it body [] pos) (sFor ms g b) := PS.of (ps_for hp hc hi hg hb hs) fun E σ H h => by
  obtain ⟨μ, A, ρ, hr, fr, p⟩ := h
  refine ⟨μ, A, ρ, hr, fr, (inE_post p fr).imp fun μ0 H0 s A0 l0 r0 q0 J fit => ?_⟩
  obtain ⟨n, q0⟩ := lim_of q0
  refine ⟨fun i n σ H => ∃ μ A ρ, Le μ0 H0 μ H ∧ HR X.K X.prog X.w μ H A ∧ FR X.K μ H ρ σ ∧ postS X.K X.prog X.w W μ H (forN s g b n i ρ A) E, ⟨n, μ0, A0, ρ, Le.refl _ _, r0, fr.le l0, q0⟩, ?_⟩
  rintro i n σ H ⟨μ, A, ρ, l, hr, fr, p⟩
  cases n with
  | zero => exact p.elim
  | succ n =>
    obtain ⟨f1, f2⟩ := fit i μ H A l hr
    have p : postS X.K X.prog X.w W μ H (match s i A with
      | none => .no
      | some none => .nx ρ A
      | some (some d) => (match g d ρ A with
        | .ok ρ1 A1 => (match b ρ1 A1 with
          | .nx ρ' A' => forN s g b n (i + 1) ρ' A'
          | .ct ρ' A' => forN s g b n (i + 1) ρ' A'
          | .bk ρ' A' => .nx ρ' A'
          | r => r)
        | _ => .no)) E := p
    cases e : s i A with
    | none => rw [e] at p; exact p.elim
    | some o =>
      rw [e] at p
      cases o with
      | none => exact .inl ⟨f1 e, p μ H σ (Le.refl _ _) hr fr⟩
      | some d =>
        obtain ⟨go, yld⟩ := f2 d e
        refine .inr ⟨go, fun σ H => ∃ μ A ρ, Le μ0 H0 μ H ∧ HR X.K X.prog X.w μ H A ∧ FR X.K μ H ρ σ ∧ postS X.K X.prog X.w W μ H (forN s g b n (i + 1) ρ A) E, fun σ' H' z => ⟨n, Nat.lt_succ_self n, z⟩, fun x H' y => ?_⟩
        obtain ⟨μ1, l1, r1, dx⟩ := yld x H' y
        refine ⟨μ1, A, ρ, d, r1, fr.le l1, dx, ?_⟩
        simp only at p
        cases eg : g d ρ A with
        | ex c fs A2 => rw [eg] at p; exact p.elim
        | no => rw [eg] at p; exact p.elim
        | ok ρ1 A1 =>
          rw [eg] at p
          simp only at p
          refine fun μ2 H2 l2 r2 σ2 fr2 => ⟨μ2, A1, ρ1, r2, fr2, ?_⟩
          have p := postS.le p (l1.trans l2)
          have ll := (l.trans l1).trans l2
          cases e : b ρ1 A1 with
          | nx ρ' A' => rw [e] at p; exact fun μ3 H3 σ3 l3 r3 f3 => ⟨μ3, A', ρ', ll.trans l3, r3, f3, postS.le p l3⟩
          | ct ρ' A' => rw [e] at p; exact fun μ3 H3 σ3 l3 r3 f3 => ⟨μ3, A', ρ', ll.trans l3, r3, f3, postS.le p l3⟩
          | bk ρ' A' => rw [e] at p; exact fun μ3 H3 σ3 l3 r3 f3 => p μ3 H3 σ3 l3 r3 f3
          | rt d A' => rw [e] at p; exact p
          | ex c fs ρ' A' => rw [e] at p; exact p
          | no => rw [e] at p; exact p
/-! ### sources -/
/-- a value that is walked as it stands -/
def srcOf (d : D) : M Src := match d with
  | .tup xs => ret (srcL xs)
  | .frl xs => ret (srcL xs)
  | .ref n => onRef n fun o => match o with
    | .lst _ => ret (srcR n)
    | _ => noM
  | _ => noM
def isTupD : D → Bool
  | .tup _ => true
  | _ => false
/-- of a name, an item, ..: a tuple or a list -/
def mSrc (m : EM) : Fr → M Src := fun ρ => bnd (m ρ) srcOf
def srcG (lo : Int) (n : Nat) : Src := fun i _ => some (if i < n then some (.int (lo + i)) else none)
def rngOk (i : Int) : Prop := -(2 ^ 62) ≤ i ∧ i < 2 ^ 62
instance (i : Int) : Decidable (rngOk i) := inferInstanceAs (Decidable (_ ∧ _))
def mRng1 (m : EM) : Fr → M Src := fun ρ => bnd (m ρ) fun d => match d with
  | .int j => if rngOk j then ret (srcG 0 j.toNat) else noM
  | _ => noM
def mRng2 (a b : EM) : Fr → M Src := fun ρ => bnd (a ρ) fun x => bnd (b ρ) fun y => match x, y with
  | .int i, .int j => if rngOk i ∧ rngOk j then ret (srcG i (j - i).toNat) else noM
  | _, _ => noM
/-- with its number -/
def srcE (s : Src) : Src := fun i A => (s i A).map fun o => o.map fun d => .tup [.int i, d]
def lstOf (d : D) : M Src := match d with
  | .frl xs => ret (srcL xs)
  | .ref n => onRef n fun o => match o with
    | .lst _ => ret (srcR n)
    | _ => noM
  | _ => noM
def mEnu (m : EM) : Fr → M Src := fun ρ => bnd (m ρ) fun d => bnd (lstOf d) fun s => ret (srcE s)
def srcZ (s t : Src) : Src := fun i A => match s i A, t i A with
  | some (some d), some (some e) => some (some (.tup [d, e]))
  | some none, some _ => some none
  | some (some _), some none => some none
  | _, _ => none
def mZip (a b : EM) : Fr → M Src := fun ρ => bnd (a ρ) fun x => bnd (b ρ) fun y => bnd (lstOf x) fun s => bnd (lstOf y) fun t => ret (srcZ s t)
section
variable {K : PySem.W.Frag} {P : Program} {w : World} {W : WX} {σ : L2.St} {μ μ0 : List Addr} {H H0 : Hp} {A : AH}
/-- what stands behind a list's source -/
inductive LS (K : PySem.W.Frag) (μ0 : List Addr) (H0 : Hp) (A0 : AH) : Src → Addr → Prop where
  | frl {xs : List D} {a : Addr} {vs : List V} : LstAt K μ0 H0 a vs → DVs K μ0 H0 xs vs → LS K μ0 H0 A0 (srcL xs) a
  | ref {n : Nat} {a : Addr} : μ0[n]? = some a → LS K μ0 H0 A0 (srcR n) a
/-- at a later turn: the list as it stands -/
theorem LS.at {A0 : AH} {s : Src} {a : Addr} (h : LS K μ0 H0 A0 s a) (l : Le μ0 H0 μ H) (hr : HR K P w μ H A) {i : Nat} {o : Option D} (e : s i A = some o) : ∃ vs xs, SqL K H a vs ∧ DVs K μ H xs vs ∧ o = xs[i]? := by
  cases h with
  | frl t q =>
    cases e
    exact ⟨_, _, (t.le l).sq, q.le l, rfl⟩
  | @ref n _ m =>
    unfold srcR at e
    split at e
    · rename_i xs e1
      cases e
      obtain ⟨vs, q1, q2⟩ := hr.lst e1 (l.at m)
      exact ⟨vs, xs, .of q1, q2, rfl⟩
    · cases e
theorem lstOf_post {d : D} {x : V} {Q : List Addr → Hp → Src → AH → Prop} (h : post K P w W σ μ H (lstOf d A) Q) (hr : HR K P w μ H A) (hd : DV K μ H d x) :
    ∃ s a vs, x = .ref a ∧ LS K μ H A s a ∧ SqL K H a vs ∧ post K P w W σ μ H (.ok s A) Q := by
  unfold lstOf at h
  split at h
  · obtain ⟨a, vs, rfl, t, q⟩ := hd
    exact ⟨_, a, vs, rfl, .frl t q, t.sq, h⟩
  · obtain ⟨o, e, h⟩ := onRef_post h
    split at h
    · obtain ⟨a, rfl, m⟩ := hd
      obtain ⟨vs, q1, q2⟩ := hr.lst e m
      exact ⟨_, a, vs, rfl, .ref m, .of q1, h⟩
    · exact h.elim
  · exact h.elim
theorem fits_list {A0 : AH} {s : Src} {a : Addr} (h : LS K μ0 H0 A0 s a) (inj : ∀ {H : Hp} {xs ys : List V}, SqL K H a xs → SqL K H a ys → xs = ys → True) : Fits K P w μ0 H0 s (Itl K a) := by
  intro i μ H A l hr
  refine ⟨fun e => ?_, fun d e => ?_⟩
  · obtain ⟨vs, xs, h1, h2, h3⟩ := h.at l hr e
    have hl : xs.length ≤ i := by
      cases hx : xs[i]? with
      | none => exact List.getElem?_eq_none_iff.mp hx
      | some z => rw [hx] at h3; cases h3
    exact ⟨vs, h1, by rw [h2.length]; exact hl⟩
  · obtain ⟨vs, xs, h1, h2, h3⟩ := h.at l hr e
    obtain ⟨v, h4, h5⟩ := h2.get h3.symm
    refine ⟨⟨vs, v, h1, h4⟩, fun x H' y => ?_⟩
    obtain ⟨rfl, y⟩ := y
    have z := y vs h1
    rw [h4] at z
    cases z
    exact ⟨μ, Le.refl _ _, hr, h5⟩
theorem fits_enum {A0 : AH} {s : Src} {a : Addr} (h : LS K μ0 H0 A0 s a) : Fits K P w μ0 H0 (srcE s) (ItE K a) := by
  intro i μ H A l hr
  have split : ∀ {o : Option D}, srcE s i A = some o → ∃ o', s i A = some o' ∧ o = o'.map fun d => .tup [.int i, d] := by
    intro o e
    unfold srcE at e
    obtain ⟨o', e1, e2⟩ := Option.map_eq_some_iff.mp e
    exact ⟨o', e1, e2.symm⟩
  refine ⟨fun e => ?_, fun d e => ?_⟩
  · obtain ⟨o', e1, e2⟩ := split e
    obtain ⟨vs, xs, h1, h2, h3⟩ := h.at l hr e1
    have hl : xs.length ≤ i := by
      cases hx : xs[i]? with
      | none => exact List.getElem?_eq_none_iff.mp hx
      | some z => rw [hx] at h3; subst h3; cases e2
    exact ⟨vs, h1, by rw [h2.length]; exact hl⟩
  · obtain ⟨o', e1, e2⟩ := split e
    obtain ⟨vs, xs, h1, h2, h3⟩ := h.at l hr e1
    cases hx : xs[i]? with
    | none => rw [hx] at h3; subst h3; cases e2
    | some z =>
      rw [hx] at h3
      subst h3
      cases e2
      obtain ⟨v, h4, h5⟩ := h2.get hx
      refine ⟨⟨vs, v, h1, h4⟩, fun x H' y => ?_⟩
      obtain ⟨x', ⟨T, o, rfl, hT, hd, rfl⟩, y⟩ := y
      have q := y vs h1
      rw [h4] at q
      cases q
      refine ⟨μ, Le.add hT, hr.add hT, T, _, rfl, .inl ⟨hr.fresh hT, o, hd, upd_same⟩, ?_⟩
      exact ⟨_, _, rfl, rfl, _, _, rfl, h5.le (Le.add hT), rfl⟩
theorem fits_zip {A0 : AH} {s t : Src} {a b : Addr} (h : LS K μ0 H0 A0 s a) (g : LS K μ0 H0 A0 t b) : Fits K P w μ0 H0 (srcZ s t) (ItZ K a b) := by
  intro i μ H A l hr
  have both : ∀ {o : Option D}, srcZ s t i A = some o → ∃ o1 o2, s i A = some o1 ∧ t i A = some o2 ∧ (o = none → o1 = none ∨ o2 = none) ∧ ∀ d, o = some d → ∃ d1 d2, o1 = some d1 ∧ o2 = some d2 ∧ d = .tup [d1, d2] := by
    intro o e
    unfold srcZ at e
    split at e
    · rename_i d1 d2 e1 e2
      cases e
      exact ⟨_, _, e1, e2, (fun z => nomatch z), fun d z => ⟨d1, d2, rfl, rfl, (Option.some.inj z).symm⟩⟩
    · rename_i x e1 e2
      cases e
      exact ⟨_, _, e1, e2, fun _ => .inl rfl, fun d z => nomatch z⟩
    · rename_i x e1 e2
      cases e
      exact ⟨_, _, e1, e2, fun _ => .inr rfl, fun d z => nomatch z⟩
    · cases e
  have short : ∀ {xs : List D} {vs : List V}, DVs K μ H xs vs → none = xs[i]? → vs.length ≤ i := fun h e => by
    rw [h.length]
    exact List.getElem?_eq_none_iff.mp e.symm
  refine ⟨fun e => ?_, fun d e => ?_⟩
  · obtain ⟨o1, o2, e1, e2, e3, _⟩ := both e
    obtain ⟨vs, xs, h1, h2, h3⟩ := h.at l hr e1
    obtain ⟨ws, ys, g1, g2, g3⟩ := g.at l hr e2
    refine ⟨vs, ws, h1, g1, ?_⟩
    rcases e3 rfl with z | z
    · rw [z] at h3
      exact .inl (short h2 h3)
    · rw [z] at g3
      exact .inr (short g2 g3)
  · obtain ⟨o1, o2, e1, e2, _, e3⟩ := both e
    obtain ⟨vs, xs, h1, h2, h3⟩ := h.at l hr e1
    obtain ⟨ws, ys, g1, g2, g3⟩ := g.at l hr e2
    obtain ⟨d1, d2, rfl, rfl, rfl⟩ := e3 d rfl
    obtain ⟨v, h4, h5⟩ := h2.get h3.symm
    obtain ⟨u, g4, g5⟩ := g2.get g3.symm
    refine ⟨⟨vs, ws, v, u, h1, g1, h4, g4⟩, fun x H' y => ?_⟩
    obtain ⟨x', y', ⟨T, o, rfl, hT, hd, rfl⟩, y1, y2⟩ := y
    have q := y1 vs h1
    rw [h4] at q
    cases q
    have q := y2 ws g1
    rw [g4] at q
    cases q
    refine ⟨μ, Le.add hT, hr.add hT, T, _, rfl, .inl ⟨hr.fresh hT, o, hd, upd_same⟩, ?_⟩
    exact ⟨_, _, rfl, h5.le (Le.add hT), _, _, rfl, g5.le (Le.add hT), rfl⟩
theorem fits_tup {a : Addr} {xs : List D} {vs : List V} (t : TupAt K μ0 H0 a vs) (q : DVs K μ0 H0 xs vs) : Fits K P w μ0 H0 (srcL xs) (Itt K a) := by
  intro i μ H A l hr
  refine ⟨fun e => ?_, fun d e => ?_⟩
  · have e : xs[i]? = none := Option.some.inj e
    exact ⟨vs, (t.le l).sq, by rw [q.length]; exact List.getElem?_eq_none_iff.mp e⟩
  · have e : xs[i]? = some d := Option.some.inj e
    obtain ⟨v, h4, h5⟩ := (q.le l).get e
    refine ⟨⟨vs, v, (t.le l).sq, h4⟩, fun x H' y => ?_⟩
    obtain ⟨rfl, y⟩ := y
    have z := y vs (t.le l).sq
    rw [h4] at z
    cases z
    exact ⟨μ, Le.refl _ _, hr, h5⟩
theorem fits_rng {lo : Int} {n : Nat} : Fits K P w μ0 H0 (srcG lo n) (Itr lo n) := by
  intro i μ H A l hr
  refine ⟨fun e => ?_, fun d e => ?_⟩
  · have e : (if i < n then some (D.int (lo + i)) else none) = none := Option.some.inj e
    show n ≤ i
    split at e
    · cases e
    · omega
  · have e : (if i < n then some (D.int (lo + i)) else none) = some d := Option.some.inj e
    split at e
    · rename_i hi
      cases e
      refine ⟨hi, fun x H' y => ?_⟩
      obtain ⟨rfl, rfl⟩ := y
      exact ⟨μ, Le.refl _ _, hr, rfl⟩
    · cases e
end
section
variable {X : Cx} {W : WX} {e e2 : Expr} {m m2 : EM} {t : AM} {pos p : Pos} {tg : Expr}
theorem di_any (he : DE X W e m) : DI X W tg e (mSrc m) := by
  refine ⟨fun pins s σ H R I h => ?_⟩
  have h' : tE X.K X.prog X.w W m σ H (fun x H1 => ∃ μ A d, HR X.K X.prog X.w μ H1 A ∧ DV X.K μ H1 d x ∧ post X.K X.prog X.w W σ μ H1 (srcOf d A) (fun μ' H' s _ => ∀ J, Fits X.K X.prog X.w μ' H' s J → R J H')) := by
    obtain ⟨μ, A, ρ, hr, fr, p⟩ := h
    exact ⟨μ, A, ρ, hr, fr, p.bnd.imp fun μ' H' d A' l r q v dv => ⟨μ', A', d, r, dv, q⟩⟩
  refine thn (he.run pins s σ H _ I h') fun v s1 ⟨x, H1, I1, r1, μ, A, d, hr, dv, q⟩ => ?_
  have lst : ∀ {s' : Src} {a : Addr} {vs : List V}, x = .ref a → LS X.K μ H1 A s' a → SqL X.K H1 a vs → post X.K X.prog X.w W σ μ H1 (.ok s' A) (fun μ' H' s _ => ∀ J, Fits X.K X.prog X.w μ' H' s J → R J H') →
      wpAny (model X.prog X.w) X.A (pyIter v) (PIE X pins σ tg R) X.xe s1 := by
    intro s' a vs e0 hl hq q
    subst e0
    cases r1
    obtain ⟨its, rv, pl, hz⟩ := I1.list hq
    refine wpAny_pyIter_list pl.isList ⟨s1.heap.objs.size, [s1.heap.objs.size], _, _, H1, rfl, I1.kept (t' := s1.toks) fun b o e => Heap.get?_push_of_some _ e, turn_list a _, ⟨_, Heap.get?_push_size _ rfl, rfl, rfl⟩, fun b hb => ?_,
      q μ H1 (Le.refl _ _) hr _ (fits_list hl fun _ _ _ => trivial)⟩
    rw [List.mem_singleton.mp hb]
    exact I1.fpOk (Nat.le_refl _) (I1.hok.fresh (Nat.le_refl _))
  unfold srcOf at q
  split at q
  · obtain ⟨a, vs, rfl, t, hv⟩ := dv
    cases r1
    obtain ⟨its, rv, pl, hz⟩ := I1.tuple t.sq
    refine wpAny_pyIter_tuple (show s1.heap.IsTuple a its.toArray from pl) ⟨s1.heap.objs.size, [s1.heap.objs.size], _, _, H1, rfl, I1.kept (t' := s1.toks) fun b o e => Heap.get?_push_of_some _ e, turn_tuple a _, ⟨_, Heap.get?_push_size _ rfl, rfl, rfl⟩, fun b hb => ?_,
      q μ H1 (Le.refl _ _) hr _ (fits_tup t hv)⟩
    rw [List.mem_singleton.mp hb]
    exact I1.fpOk (Nat.le_refl _) (I1.hok.fresh (Nat.le_refl _))
  · obtain ⟨a, vs, rfl, t, hv⟩ := dv
    exact lst rfl (.frl t hv) t.sq q
  · obtain ⟨o, e1, q⟩ := onRef_post q
    split at q
    · obtain ⟨a, rfl, m⟩ := dv
      obtain ⟨vs, q1, q2⟩ := hr.lst e1 m
      exact lst rfl (.ref m) (.of q1) q
    · exact q.elim
  · exact q.elim
theorem one_arg {σ : L2.St} {H : Hp} {Q : List V → Hp → Prop} (h : tE X.K X.prog X.w W m σ H fun x H1 => Q [x] H1) : tCons (tE X.K X.prog X.w W m) tNil σ H Q := h
theorem di_rng1 (hg : Gl X "range") (hm : X.mg "range" = none) (he : DE X W e m) (hs : starEach [e] X.env = [(false, eval e X.env)]) : DI X W tg (.Call (.Name "range" p) [e] [] pos) (mRng1 m) :=
  PI.of (pi_range1 hg hm (pa_cons he pa_nil hs) hs) fun σ H R h => by
    obtain ⟨μ, A, ρ, hr, fr, p⟩ := h
    refine ⟨μ, A, ρ, hr, fr, p.bnd.imp fun μ' H' d A' l r q v dv => ?_⟩
    cases d with
    | int j =>
      obtain rfl := dv
      obtain ⟨hj, q⟩ := ifno (m := ret (srcG 0 j.toNat)) q
      exact ⟨j, rfl, hj.1, hj.2, q μ' H' (Le.refl _ _) r _ fits_rng⟩
    | _ => exact q.elim
theorem di_rng2 (hg : Gl X "range") (hm : X.mg "range" = none) (he : DE X W e m) (he2 : DE X W e2 m2) (hs : starEach [e, e2] X.env = [(false, eval e X.env), (false, eval e2 X.env)]) (hs2 : starEach [e2] X.env = [(false, eval e2 X.env)]) :
    DI X W tg (.Call (.Name "range" p) [e, e2] [] pos) (mRng2 m m2) :=
  PI.of (pi_range2 hg hm (pa_cons he (pa_cons he2 pa_nil hs2) (by rw [hs, hs2])) hs hs2) fun σ H R h => by
    obtain ⟨μ, A, ρ, hr, fr, p⟩ := h
    refine ⟨μ, A, ρ, hr, fr, p.bnd.imp fun μ1 H1 d A1 l1 r1 q1 v dv => ⟨μ1, A1, ρ, r1, fr.le l1, q1.bnd.imp fun μ2 H2 d2 A2 l2 r2 q2 v2 dv2 => ?_⟩⟩
    split at q2
    · obtain rfl := dv
      obtain rfl := dv2
      obtain ⟨hj, q2⟩ := ifno q2
      exact ⟨_, _, rfl, ⟨hj.1.1, hj.1.2, hj.2.1, hj.2.2⟩, q2 μ2 H2 (Le.refl _ _) r2 _ fits_rng⟩
    · exact q2.elim
theorem di_enum {elts : List Expr} {kk : Nat} {tpos : Pos} (hg : Gl X "enumerate") (hm : X.mg "enumerate" = none) (he : DE X W e m) (hs : starEach [e] X.env = [(false, eval e X.env)]) : DI X W (.Tuple elts kk tpos) (.Call (.Name "enumerate" p) [e] [] pos) (mEnu m) :=
  PI.of (pi_enumF hg hm (pa_cons he pa_nil hs) hs) fun σ H R h => by
    obtain ⟨μ, A, ρ, hr, fr, p⟩ := h
    refine ⟨μ, A, ρ, hr, fr, p.bnd.imp fun μ' H' d A' l r q v dv => ?_⟩
    obtain ⟨s, a, vs, rfl, hl, hq, q⟩ := lstOf_post q.bnd r dv
    exact ⟨a, vs, rfl, hq, q μ' H' (Le.refl _ _) r μ' H' (Le.refl _ _) r _ (fits_enum hl)⟩
theorem di_zip {elts : List Expr} {kk : Nat} {tpos : Pos} (hg : Gl X "zip") (hm : X.mg "zip" = none) (he : DE X W e m) (he2 : DE X W e2 m2) (hs : starEach [e, e2] X.env = (false, eval e X.env) :: starEach [e2] X.env) (hs2 : starEach [e2] X.env = [(false, eval e2 X.env)]) :
    DI X W (.Tuple elts kk tpos) (.Call (.Name "zip" p) [e, e2] [] pos) (mZip m m2) :=
  PI.of (pi_zipF hg hm (pa_cons he (pa_cons he2 pa_nil hs2) hs) hs (by rw [hs2]; rfl)) fun σ H R h => by
    obtain ⟨μ, A, ρ, hr, fr, p⟩ := h
    refine ⟨μ, A, ρ, hr, fr, p.bnd.imp fun μ1 H1 d A1 l1 r1 q1 v dv => ⟨μ1, A1, ρ, r1, fr.le l1, q1.bnd.imp fun μ2 H2 d2 A2 l2 r2 q2 v2 dv2 => ?_⟩⟩
    obtain ⟨s, a, vs, rfl, hl, hq, q2⟩ := lstOf_post q2.bnd r2 (dv.le l2)
    have q2 := q2 μ2 H2 (Le.refl _ _) r2
    obtain ⟨s', b, ws, rfl, hl2, hq2, q2⟩ := lstOf_post q2.bnd r2 dv2
    exact ⟨a, b, vs, ws, rfl, hq, hq2, q2 μ2 H2 (Le.refl _ _) r2 μ2 H2 (Le.refl _ _) r2 _ (fits_zip hl hl2)⟩
end
end
end Pi

/-! Pi11: names at once, name op= e, attributes, calls, methods, making. -/
namespace Pi
open PyProof.Rows PySem L2 PySem.Spec

/-! ### op= -/
def IpD (X : Cx) (op : Operator) (g : D → D → M D) : Prop := ∀ (W : WX) (σ' : L2.St), PIp X op fun x y H Q => ∃ μ A d e, HR X.K X.prog X.w μ H A ∧ DV X.K μ H d x ∧ DV X.K μ H e y ∧ post X.K X.prog X.w W σ' μ H (g d e A) (vQ X.K Q)
def iaddD : D → D → M D
  | .int i, .int j => ret (.int (i + j))
  | .str x, .str y => if x.length + y.length ≤ sizeLine then ret (.str (x ++ y)) else noM
  | _, _ => noM
def isubD : D → D → M D
  | .int i, .int j => ret (.int (i - j))
  | _, _ => noM
theorem ip_d_add {X : Cx} : IpD X .Add iaddD := by
  intro W σ' pins s σ H x y v u Q I rx ry h
  obtain ⟨μ, A, d, e, hr, hd, he, p⟩ := h
  unfold iaddD at p
  split at p
  · obtain rfl := hd
    obtain rfl := he
    exact iop_add pins s σ H _ _ v u Q I rx ry ⟨_, _, rfl, rfl, vok p hr rfl⟩
  · obtain rfl := hd
    obtain rfl := he
    obtain ⟨hz, p⟩ := ifno p
    exact iop_add_str pins s σ H _ _ v u Q I rx ry ⟨_, _, rfl, rfl, hz, vok p hr rfl⟩
  · exact p.elim
theorem ip_d_sub {X : Cx} : IpD X .Sub isubD := by
  intro W σ' pins s σ H x y v u Q I rx ry h
  obtain ⟨μ, A, d, e, hr, hd, he, p⟩ := h
  unfold isubD at p
  split at p
  · obtain rfl := hd
    obtain rfl := he
    exact iop_sub pins s σ H _ _ v u Q I rx ry ⟨_, _, rfl, rfl, vok p hr rfl⟩
  · exact p.elim
section
variable {X : Cx} {W : WX} {e : Expr} {m : EM} {pos pos' : Pos}
theorem ds_aug {i : Nat} {x : Str} {op : Operator} {g : D → D → M D} (hN : X.N.Nodup) (hi : X.N[i]? = some x) (hx : Loc X.env.scope x) (he : DE X W e m) (ho : IpD X op g) (hf : X.fn x = true ∨ X.env.scope.names.lookup x = some .local) :
    DS X W (.AugAssign (.Name x pos') op e pos) (sAug i g m) := ⟨fun pins s σ H E I h => (ps_aug hN hi hx he (ho W σ) hf).run pins s σ H E I (by
  obtain ⟨μ, A, ρ, hr, fr, p⟩ := h
  unfold sAug at p
  cases q : ρ[i]? with
  | none => rw [q] at p; exact p.elim
  | some o =>
    rw [q] at p
    cases o with
    | none => exact p.elim
    | some d =>
      obtain ⟨v, h1, h2⟩ := fr.at_ i d q
      refine ⟨v, h1, μ, A, ρ, hr, fr, (inE_post p fr).imp fun μ1 H1 y A1 l1 r1 q1 yv yd => ⟨μ1, A1, d, y, r1, h2.le l1, yd, (inE_post q1 (fr.le l1)).imp fun μ2 H2 z A2 l2 r2 q2 zv zd => ?_⟩⟩
      exact q2 μ2 H2 _ (Le.refl _ _) r2 (((fr.le l1).le l2).set zd))⟩
theorem ds_par {i j : Nat} {x y : Str} {a b : Expr} {t : AM} {px py pt : Pos} {kt k2 pt2} (hc : X.calm = true) (hN : X.N.Nodup) (hi : X.N[i]? = some x) (hj : X.N[j]? = some y) (hij : i ≠ j)
    (hx : X.env.scope.names.lookup x = some .local) (hy : X.env.scope.names.lookup y = some .local) (ha : DA X W [a, b] t) (hw : swappedStores [.Tuple [.Name x px, .Name y py] kt pt] (.Tuple [a, b] k2 pt2) X.env = pure (some [x, y]))
    (hs : swapsWithSole [.Tuple [.Name x px, .Name y py] kt pt] (.Tuple [a, b] k2 pt2) pos.line X.env = pure false) : DS X W (.Assign [.Tuple [.Name x px, .Name y py] kt pt] (.Tuple [a, b] k2 pt2) pos) (sPar [i, j] t) :=
  PS.of (ps_par hc hN hi hj hij hx hy ha hw hs) fun E σ H h => by
    obtain ⟨μ, A, ρ, hr, fr, p⟩ := h
    refine ⟨μ, A, ρ, hr, fr, (inE_post p fr).imp fun μ1 H1 ds A1 l1 r1 q1 vs dv => ?_⟩
    match ds, dv, q1 with
    | [d, e], dv, q1 =>
      obtain ⟨v, u, rfl, h1, h2⟩ := two_dv dv
      exact ⟨v, u, rfl, q1 μ1 H1 _ (Le.refl _ _) r1 (((fr.le l1).set h1).set h2)⟩
    | [], dv, q1 => exact q1.elim
    | [_], dv, q1 => exact q1.elim
    | _ :: _ :: _ :: _, dv, q1 => exact q1.elim
theorem three_dv {K : PySem.W.Frag} {μ : List Addr} {H : Hp} {d e f : D} {xs : List V} (h : DVs K μ H [d, e, f] xs) : ∃ v u w, xs = [v, u, w] ∧ DV K μ H d v ∧ DV K μ H e u ∧ DV K μ H f w := by
  obtain ⟨v, r, rfl, h1, h2⟩ := h
  obtain ⟨u, w, rfl, h3, h4⟩ := two_dv h2
  exact ⟨v, u, w, rfl, h1, h3, h4⟩
theorem ds_par3 {i j l : Nat} {x y z : Str} {a b c : Expr} {t : AM} {px py pz pt : Pos} {kt k2 pt2} (hc : X.calm = true) (hN : X.N.Nodup) (hi : X.N[i]? = some x) (hj : X.N[j]? = some y) (hl : X.N[l]? = some z) (hij : i ≠ j) (hil : i ≠ l) (hjl : j ≠ l)
    (hx : X.env.scope.names.lookup x = some .local) (hy : X.env.scope.names.lookup y = some .local) (hz : X.env.scope.names.lookup z = some .local) (ha : DA X W [a, b, c] t) (hw : swappedStores [.Tuple [.Name x px, .Name y py, .Name z pz] kt pt] (.Tuple [a, b, c] k2 pt2) X.env = pure (some [x, y, z]))
    (hs : swapsWithSole [.Tuple [.Name x px, .Name y py, .Name z pz] kt pt] (.Tuple [a, b, c] k2 pt2) pos.line X.env = pure false) : DS X W (.Assign [.Tuple [.Name x px, .Name y py, .Name z pz] kt pt] (.Tuple [a, b, c] k2 pt2) pos) (sPar [i, j, l] t) :=
  PS.of (ps_par3 hc hN hi hj hl hij hil hjl hx hy hz ha hw hs) fun E σ H h => by
    obtain ⟨μ, A, ρ, hr, fr, p⟩ := h
    refine ⟨μ, A, ρ, hr, fr, (inE_post p fr).imp fun μ1 H1 ds A1 l1 r1 q1 vs dv => ?_⟩
    match ds, dv, q1 with
    | [d, e, f], dv, q1 =>
      obtain ⟨v, u, w, rfl, h1, h2, h3⟩ := three_dv dv
      exact ⟨v, u, w, rfl, q1 μ1 H1 _ (Le.refl _ _) r1 ((((fr.le l1).set h1).set h2).set h3)⟩
    | [], dv, q1 => exact q1.elim
    | [_], dv, q1 => exact q1.elim
    | [_, _], dv, q1 => exact q1.elim
    | _ :: _ :: _ :: _ :: _, dv, q1 => exact q1.elim
end

/-! ### attributes -/
/-- which attributes a class's objects have -/
abbrev Att := Str → Str → Bool
/-- the tables tell true -/
structure AttOk (K : PySem.W.Frag) (T : Att) : Prop where
  cls : ∀ c f, T c f = true → Cls K (He.ga K c)
  no : ∀ c f, T c f = true → NoAttr K (He.ga K c) f
def onIns {α : Type} (d : D) (f : Nat → Str → List (Str × D) → M α) : M α := match d with
  | .ref n => onRef n fun o => match o with
    | .ins c fs => f n c fs
    | _ => noM
  | _ => noM
def fldD (T : Att) (f : Str) (d : D) : M D := onIns d fun _ c fs => if T c f = true then opt (fLook f fs) else noM
def eFld (T : Att) (f : Str) (m : EM) : EM := fun ρ => bnd (m ρ) (fldD T f)
def sFldPut (T : Att) (f : Str) (o m : EM) : SM := inE m fun v => inE o fun x => inE (fun _ => onIns x fun n c fs => if T c f = true ∧ fs.length < 1000 then put n (.ins c (fPut f v fs)) else noM) fun _ => sNx
section
variable {K : PySem.W.Frag} {P : Program} {w : World} {W : WX} {σ : L2.St} {μ : List Addr} {H : Hp} {A : AH}
theorem onIns_post {α : Type} {d : D} {x : V} {f : Nat → Str → List (Str × D) → M α} {Q : List Addr → Hp → α → AH → Prop} (h : post K P w W σ μ H (onIns d f A) Q) (hr : HR K P w μ H A) (hd : DV K μ H d x) :
    ∃ n c fs a dx vs, d = .ref n ∧ A[n]? = some (.ins c fs) ∧ x = .ref a ∧ μ[n]? = some a ∧ H a = some (.ins (He.ga K c) dx vs) ∧ FVs K μ H fs vs ∧ post K P w W σ μ H (f n c fs A) Q := by
  cases d with
  | ref n =>
    have h : post K P w W σ μ H (onRef n (fun o => match o with
      | .ins c fs => f n c fs
      | _ => noM) A) Q := h
    obtain ⟨o, e, h⟩ := onRef_post h
    cases o with
    | ins c fs =>
      obtain ⟨a, rfl, m⟩ := hd
      obtain ⟨dx, vs, q1, q2⟩ := hr.obj n _ a e m
      exact ⟨n, c, fs, a, dx, vs, rfl, e, rfl, m, q1, q2, h⟩
    | _ => exact h.elim
  | _ => exact h.elim
theorem FVs.lookS {f : Str} {d : D} {fs : List (Str × D)} {vs : List (Str × V)} (h : FVs K μ H fs vs) (e : fLook f fs = some d) : ∃ v, vs.lookup f = some v ∧ DV K μ H d v := by
  have z := h.look (f := f)
  rw [e] at z
  exact z
theorem FVs.lookN {f : Str} {fs : List (Str × D)} {vs : List (Str × V)} (h : FVs K μ H fs vs) (e : fLook f fs = none) : vs.lookup f = none := by
  have z := h.look (f := f)
  rw [e] at z
  exact z
end
section
variable {X : Cx} {W : WX} {e o : Expr} {m mo : EM} {pos pos' : Pos} {T : Att} {f : Str}
theorem de_fld (ok : AttOk X.K T) (he : DE X W e m) (hb : attributeBase e f X.env (eval e X.env) = eval e X.env) : DE X W (.Attribute e f pos) (eFld T f m) := PE.of (pe_fld he hb) fun σ H Q h => by
  obtain ⟨μ, A, ρ, hr, fr, p⟩ := h
  refine ⟨μ, A, ρ, hr, fr, p.bnd.imp fun μ' H' d A' l r q v dv => ?_⟩
  obtain ⟨n, c, fs, a, dx, vs, rfl, e1, rfl, hm, ha, hf, q⟩ := onIns_post q r dv
  obtain ⟨hT, q⟩ := ifno q
  obtain ⟨z, e2, q⟩ := opt_post q
  obtain ⟨zv, e3, dz⟩ := hf.lookS e2
  exact ⟨a, _, dx, vs, zv, rfl, ha, ok.cls _ _ hT, ok.no _ _ hT, e3, vok q r dz⟩
theorem ds_fld (ok : AttOk X.K T) (ho : DE X W o mo) (he : DE X W e m) (hs : swapsWith e (some (.Attribute o f pos')) pos.line X.env = pure false) : DS X W (.Assign [.Attribute o f pos'] e pos) (sFldPut T f mo m) := PS.of (ps_fld ho he hs) fun E σ H h => by
  obtain ⟨μ, A, ρ, hr, fr, p⟩ := h
  refine ⟨μ, A, ρ, hr, fr, (inE_post p fr).imp fun μ1 H1 y A1 l1 r1 q1 yv yd => ⟨μ1, A1, ρ, r1, fr.le l1, (inE_post q1 (fr.le l1)).imp fun μ2 H2 x A2 l2 r2 q2 xv xd => ?_⟩⟩
  obtain ⟨n, c, fs, a, dx, vs, rfl, e1, rfl, hm, ha, hf, q⟩ := onIns_post (inE_post q2 ((fr.le l1).le l2)) r2 xd
  obtain ⟨hT, q⟩ := ifno q
  refine ⟨a, _, dx, vs, rfl, ha, ok.cls _ _ hT.1, ok.no _ _ hT.1, by rw [hf.length]; exact hT.2, ?_⟩
  have hl : Le μ2 H2 μ2 (upd H2 a (.ins (He.ga X.K c) dx (putF f yv vs))) := Le.put (List.mem_of_getElem? hm)
  have hr3 : HR X.K X.prog X.w μ2 (upd H2 a (.ins (He.ga X.K c) dx (putF f yv vs))) (A2.set n (.ins c (fPut f y fs))) := r2.put hm ⟨dx, _, upd_same, (FVs.put (yd.le l2) hf).le hl⟩
  exact q μ2 _ hl hr3 μ2 _ σ (Le.refl _ _) hr3 (((fr.le l1).le l2).le hl)
end
end Pi

/-! Pg: what a def promises where no repr runs around it; the law's call from outside. -/
namespace Pi
open PyProof.Rows PySem L2 PySem.Spec
/-- a function of values -/
abbrev FM := List D → M D
/-- a def's promise: it does as g -/
def spF (K : PySem.W.Frag) (P : Program) (w : World) (np : Nat) (g : FM) : Sp := fun vs H Q E => vs.length = np ∧ ∃ μ A ds, HR K P w μ H A ∧ DVs K μ H ds vs ∧ post K P w (fun c d _ H => E c d H) [] μ H (g ds A) (vQ K Q)
/-- room, and no repr around -/
structure Rm (k : Nat) (A : Around) : Prop where
  rm : Room k A
  gd : A.guards = some []
theorem Rm.mono {j k : Nat} {A : Around} (r : Rm k A) (h : j ≤ k) : Rm j A := ⟨r.rm.mono h, r.gd⟩
theorem Rm.deeper {k : Nat} {A : Around} (r : Rm (k + 1) A) (env : Env) : Rm k (A.deeper env) := ⟨r.rm.deeper env, r.gd⟩
theorem Rm.make {k : Nat} {A : Around} (r : Rm (k + 1) A) (C : Addr) (us : List Value) : Rm k (A.under (.builtin "type.__call__" ⟨.ref C :: us, []⟩)) := by
  refine ⟨r.rm.make C us [], ?_⟩
  have e : (Code.builtin "type.__call__" ⟨.ref C :: us, []⟩).guards = [] := by
    unfold Code.guards
    rw [if_neg (by simp [Code.isGuard, guardIds])]
  show pushGuards (Code.builtin "type.__call__" ⟨.ref C :: us, []⟩).guards A.guards = some []
  rw [e]
  exact r.gd
/-- the def at f does as g -/
def FnG (P : Program) (w : World) (K : PySem.W.Frag) (mg : Str → Option Value) (base : Heap) (k : Nat) (f : Addr) (fd : FuncData) (ps : List Str) (g : FM) : Prop :=
  ∀ (A : Around) (outer : List Env) (s : Shared) (H : Hp) (args : Args) (us : List Value) (vs : List V) (Q : VK) (E : XK), Rm k A → Env0 P w K mg base A outer s H → BindsTo s fd args (ps.zip us) → Vals vs us → spF K P w ps.length g vs H Q E →
    codeAny (model P w) A (.call (.ref f) args) (CR (L2.CX P w) outer P w H s Q E) s
section
variable {X : Cx} {k : Nat} {f : Addr} {fd : FuncData} {ps : List Str} {g : FM}
/-- the callee runs, at this frame's slots -/
theorem FnG.go {pn : List (Addr × Obj)} {sg : L2.St} {Hv : Hp} {sv : Shared} {Q : VK} {us ds : List Value} {vs dvs : List V} {W : WX} (F : FnG X.prog X.w X.K X.mg X.base k f fd ps g) (hr : Rm k X.A) (hb : Binds X.K fd ps ds) (hd : Vals dvs ds) (tk : Takes X W)
    (Iv : Inv X pn sg Hv sv) (r : Vals vs us) (h : spF X.K X.prog X.w ps.length g (vs ++ dvs) Hv Q (WE W sg)) : wpAny (model X.prog X.w) X.A (call (.ref f) us) (EP X pn sg Q) X.xe sv := by
  have r2 : Vals (vs ++ dvs) (us ++ ds) := r.append hd
  refine wpAny_call (codeAny_mono (F X.A X.stack sv Hv ⟨us, []⟩ _ _ Q (WE W sg) hr Iv.env0 (hb sv us Iv.kIn (r2.length.symm.trans h.1)) r2 h) fun rs s' hq => ?_)
  match rs, hq with
  | .error er, hq => exact passAt tk sg pn Hv sv er s' Iv hq
  | .ok (.ret u), hq => exact Iv.after hq
  | .ok .next, hq => exact False.elim hq
  | .ok .brk, hq => exact False.elim hq
  | .ok .cont, hq => exact False.elim hq
end
/-- by its body -/
theorem fnG_of {P : Program} {w : World} {K : PySem.W.Frag} {mg : Str → Option Value} {base : Heap} {k : Nat} {f : Addr} {name qual : Str} {params : Arguments} {body : List Stmt} {scope : Scope} {dV kV doc pm cdv ct oc : Value} {an od : Option Addr}
    {osl : Array (Option Value)} {N ps : List Str} {g : FM} (lk : K.lookup f = some ⟨oc, od, .func (PySem.W.fnOf name qual params body scope dV kV doc pm an cdv ct), osl⟩) (hcd : PySem.W.codeIn K cdv qual = true) (S : FnScope N ps scope)
    (hbody : ∀ (A : Around) (outer : List Env) (s : Shared) (H : Hp) (vs : List V) (Q : VK) (E : XK), Rm k (A.deeper (envOfC qual scope s.heap.objs.size f cdv)) → spF K P w ps.length g vs H Q E →
      ∃ t, PSs (cxOf (L2.CX P w) P w K mg base N qual scope f cdv A outer s H E) body t ∧ t { nx := fun _ H' => Q .non H', rt := Q } (start N vs) H) :
    FnG P w K mg base (k + 1) f (PySem.W.fnOf name qual params body scope dV kV doc pm an cdv ct) ps g := by
  intro A outer s H args us vs Q E hr e0 hb r hsp
  have kin : K.In s.heap := e0.mod.kin.keeps fun b o e => (e0.bs b o e).1
  have nol : s.heap.NoLimit := e0.mod.nolimit.keeps fun b o e => (e0.bs b o e).1
  have kinds : ∀ y ∈ ps.zip us, scope.names.lookup y.1 = some .local ∨ (scope.names.lookup y.1 = some .cell ∧ ((cellsFrom (s.heap.objs.size + 1) scope.names []).lookup y.1).isSome = true) := by
    rintro ⟨n, v⟩ hy
    rcases S.par n (List.of_mem_zip hy).1 with q | q
    · exact .inl q
    · exact .inr ⟨q, PySem.W.cellsFrom_some _ _ _ (.inl q)⟩
  refine codeAny_call_function hr.rm.depth (kin _ _ lk) rfl S.co S.gen rfl (PySem.W.codeRec_of kin hcd) (hb _ _ _ _ (wpAny_newFunctionEnv_cells S.kind kinds fun env he s1 x => ?_))
  subst he
  refine ⟨nol.keeps x.toInCall.keep, codeAny_func ?_⟩
  obtain ⟨t, ht, hq⟩ := hbody A outer s H vs Q E (hr.deeper _) hsp
  have J := inv_start (CX := L2.CX P w) (N := N) (f := f) (E := E) S hr.rm.hd e0 hsp.1 r x
  refine wpAny_mono (ht.run [] s1 (start N vs) H _ J hq) (fun fl s' hs => ?_) fun _ _ z => z
  match fl, hs with
  | .ret u, ⟨v, _, H', J', rv, q⟩ => exact ⟨v, H', J'.os, J'.bare, J'.base, J'.hok, rv, q⟩
  | .next, ⟨_, H', J', q⟩ => exact ⟨.non, H', J'.os, J'.bare, J'.base, J'.hok, rfl, q⟩
  | .brk, ⟨_, _, _, q⟩ => exact False.elim q
  | .cont, ⟨_, _, _, q⟩ => exact False.elim q
/-! ### the law's call -/
section
variable {P : Program} {w : World} {K : PySem.W.Frag} {mg mb : Str → Option Value} {k : Nat} {fa a : Addr} {fd : FuncData} {x : Str} {g : FM} {s1 : Shared} {vs : List Value} {ns : List Int}
theorem call_law (KX : K.In s1.heap) (hns : s1.heap.Ns mainGlobals mg) (hb : s1.heap.Ns builtinsNs mb) (hbb : ∀ x : Str, x ≠ "__name__" → mb x = bootBuiltins x) (hlim : s1.heap.NoLimit) (hg : s1.gens = #[])
    (ha : s1.heap.get? a = some { cls := .type "list", data := .seq vs.toArray }) (hi : IntsAre vs ns) (hl : ns.length ≤ sizeLine) (hr : Rm k callerA)
    (F : ∀ base : Heap, K.In base → base.Ns mainGlobals mg → FnG P w K mg base k fa fd [x] g) (hbind : ∀ (s : Shared) (u : Value), BindsTo s fd ⟨[u], []⟩ [(x, u)])
    (law : ∃ A', g [.frl (ns.map D.int)] [] = .ok (.bl true) A') :
    codeAny (model P w) callerA (.call (.ref fa) ⟨[.ref a], []⟩) (fun r s' => r = .ok (.ret (.bool true)) ∧ OldK s1.heap s'.heap ∧ s'.os = s1.os ∧ AllBare s'.gens) s1 := by
  have rv := vals_ints hi
  have dvs : ∀ (μ : List Addr) (H : Hp) (ns : List Int), DVs K μ H (ns.map D.int) (ns.map V.int) := fun μ H ns => by
    induction ns with
    | nil => rfl
    | cons n r ih => exact ⟨_, _, rfl, rfl, ih⟩
  -- over an abstract heap that has the script at most
  have core : ∀ H : Hp, (∀ b, H b = none ∨ ∃ o xs, H b = some (.frz o (.lst xs))) → LstAt K [] H a (ns.map V.int) → HOk P w H s1.heap → (∀ b, H b ≠ none → b = a) → (H a ≠ none → K.lookup a = none) →
      codeAny (model P w) callerA (.call (.ref fa) ⟨[.ref a], []⟩) (fun r s' => r = .ok (.ret (.bool true)) ∧ OldK s1.heap s'.heap ∧ s'.os = s1.os ∧ AllBare s'.gens) s1 := by
    intro H only hS hok alone hK
    have free : ∀ {b : Addr}, b ≠ a → H b = none := fun {b} n => by
      cases q : H b with
      | none => rfl
      | some u => exact absurd (alone b (by rw [q]; simp)) n
    have noDict : ∀ {b : Addr} {o : Obj} {es : Array DictEntry} {ep : Nat}, s1.heap.get? b = some o → o.data = .dict es ep → H b = none := fun {b o es ep} e d => free fun z => by
      rw [z, ha] at e
      cases e
      cases (show Data.seq vs.toArray _ = Data.dict es ep from d)
    have ns_ : ∀ {b : Addr} {m : Str → Option Value}, s1.heap.Ns b m → (hidT s1.heap H).Ns b m := fun {b m} ⟨o, es, ep, e, d, r⟩ => ⟨o, es, ep, hidT_get e (noDict e d), d, r⟩
    have kb : K.In (hidT s1.heap H) := fun b o e => hidT_get (KX b o e) (by
      cases q : H b with
      | none => rfl
      | some u =>
        have z := alone b (by rw [q]; simp)
        rw [z] at e q
        rw [hK (by rw [q]; simp)] at e
        cases e)
    have md : Mod K mg (hidT s1.heap H) := ⟨kb, ns_ hns, ⟨mb, ns_ hb, hbb⟩, let ⟨mc, h1, h2⟩ := hlim; ⟨mc, ns_ h1, h2⟩⟩
    have e0 : Env0 P w K mg (hidT s1.heap H) callerA [] s1 H := ⟨rfl, md, fun b o e => of_hidT e, Nat.le_of_eq (hidT_size _ _), trivial, fun b hb => absurd (show b ∈ ([] : List Addr) from hb) (by simp), hok, .of_eq hg⟩
    have hsp : spF K P w [x].length g [.ref a] H (fun v _ => v = .bl true) (fun _ _ _ => False) := by
      obtain ⟨A', e⟩ := law
      refine ⟨rfl, [], [], [.frl (ns.map D.int)], ⟨rfl, List.nodup_nil, fun n o b h => by simp at h⟩, ⟨_, _, rfl, ⟨a, _, rfl, hS, dvs _ _ _⟩, rfl⟩, ?_⟩
      rw [e]
      exact fun μ' H' _ _ v dv => dv
    refine codeAny_mono (F _ kb (ns_ hns) callerA [] s1 H ⟨[.ref a], []⟩ [.ref a] [.ref a] _ _ hr e0 (hbind s1 (.ref a)) (.cons rfl .nil) hsp) fun r s' h => ?_
    match r, h with
    | .error e, ⟨_, _, _, _, _, _, _, _, _, _, _, _, z⟩ => exact False.elim z
    | .ok .next, h => exact False.elim h
    | .ok .brk, h => exact False.elim h
    | .ok .cont, h => exact False.elim h
    | .ok (.ret u), ⟨v, H', os, bare, un, hok', r', q⟩ =>
      have q : v = .bl true := q
      subst q
      obtain rfl : u = Value.bool true := r'
      refine ⟨rfl, OldK.of_keep fun b o e => ?_, os, bare⟩
      rcases only b with z | ⟨ob, xs, z⟩
      · exact un.keep b o e z (by simp [frs]) (by simp)
      · obtain ⟨e1, _⟩ := hok b _ z
        obtain ⟨e2, _⟩ := hok' b _ (un.frzs b ob _ z)
        rw [e] at e1
        cases e1
        exact e2
  cases hk : K.lookup a with
  | some o =>
    have e := KX a o hk
    rw [ha] at e
    cases e
    exact core (fun _ => none) (fun _ => .inl rfl) (.inr ⟨_, vs.toArray, _, hk, rfl, rfl, rfl, by rw [List.size_toArray, hi.length]; exact hl, by simpa using rv⟩) (fun b u z => nomatch z) (fun b z => absurd rfl z) fun z => absurd rfl z
  | none =>
    have at_ : ∀ {b : Addr} {u : HO}, (fun b : Addr => if b = a then some (HO.frz { cls := .type "list", data := .seq vs.toArray } (.lst (ns.map V.int))) else none) b = some u → b = a ∧ u = .frz { cls := .type "list", data := .seq vs.toArray } (.lst (ns.map V.int)) := fun {b u} z => by
      by_cases hb : b = a
      · exact ⟨hb, (Option.some.inj ((if_pos hb).symm.trans z)).symm⟩
      · exact nomatch (if_neg hb).symm.trans z
    refine core (fun b => if b = a then some (.frz { cls := .type "list", data := .seq vs.toArray } (.lst (ns.map V.int))) else none) (fun b => ?_) (.inl ⟨by simp, _, if_pos rfl⟩) (fun b u z => ?_) (fun b z => ?_) fun _ => hk
    · by_cases hb : b = a
      · exact .inr ⟨_, _, if_pos hb⟩
      · exact .inl (if_neg hb)
    · obtain ⟨rfl, rfl⟩ := at_ z
      exact ⟨ha, by rw [List.length_map]; exact hl, vs, _, rv, ha⟩
    · by_cases hb : b = a
      · exact hb
      · exact absurd (if_neg hb) z
end
/-- the row's call, from the law's own plain truth -/
theorem walk_law {l : PySem.W.OpenLaw} {n k : Nat} {q : Program} {loose : List Str} {XP : (Str → Option Value) → Heap → Prop} {YP : World → Heap → Prop} {d : DefRec} {x : Str}
    (hn : l.most = some n) (hn2 : n ≤ sizeLine) (hdf : d.params.defaults = []) (hr : Room k callerA)
    (F : ∀ (w : World) (mg : Str → Option Value) (fa : Addr) (h : Heap), YP w h → h.Ns mainGlobals mg → mg d.name = some (.ref fa) →
      ∃ (K : PySem.W.Frag) (fd : FuncData) (g : FM), K.In h ∧ (∀ (s : Shared) (u : Value), BindsTo s fd ⟨[u], []⟩ [(x, u)]) ∧
        (∀ ns : List Int, ns.length ≤ n → ∃ A', g [.frl (ns.map D.int)] [] = .ok (.bl true) A') ∧
        ∀ base : Heap, K.In base → base.Ns mainGlobals mg → FnG l.prog w K mg base k fa fd [x] g) :
    PySem.W.WalkO q loose XP YP l.row.toRowW d [] (fun f vs => PySem.call f vs) := by
  refine Att.attach_call hn hdf fun w s0 s1 mg mb fa o pm cd doc a vs ns G Y ho hd hcd hmg hobj hints hlen hg => ?_
  obtain ⟨K, fd, g, KX, hb, law, hF⟩ := F w mg fa _ Y G.T.g hmg
  exact call_law KX G.T.g G.T.b G.T.builtins G.T.nolimit hg hobj hints (Nat.le_trans hlen hn2) ⟨hr, rfl⟩ hF hb (law ns hlen)
end Pi

/-! Pi12: own functions: what they promise; calls, methods, making. -/
namespace Pi
open PyProof.Rows PySem L2 PySem.Spec

theorem post.σ {α : Type} {K : PySem.W.Frag} {P : Program} {w : World} {W W' : WX} {σ σ' : L2.St} {μ : List Addr} {H : Hp} {r : R α} {Q : List Addr → Hp → α → AH → Prop} (h : post K P w W σ μ H r Q) (hw : ∀ c d H, W c d σ H → W' c d σ' H) : post K P w W' σ' μ H r Q := by
  cases r with
  | ok a A => exact h
  | ex c fs A => exact fun μ' H' cls dd l r x => hw _ _ _ (h μ' H' cls dd l r x)
  | no => exact h
def eCall (g : FM) (t : AM) : EM := fun ρ => bnd (t ρ) g
/-- x called with m arguments does as g -/
def CalOk (X : Cx) (x : Str) (m : Nat) (g : FM) : Prop := ∃ (k : Nat) (f : Addr) (fd : FuncData) (ps : List Str) (ds : List Value) (dvs : List V) (dds : List D) (np : Nat) (g0 : FM),
  FnG X.prog X.w X.K X.mg X.base k f fd ps g0 ∧ ps.length = np ∧ Rm k X.A ∧ X.mg x = some (.ref f) ∧ PySem.W.keepIn X.K (.ref f) = true ∧ Binds X.K fd ps ds ∧ Vals dvs ds ∧ (∀ μ H, DVs X.K μ H dds dvs) ∧ np = m + dds.length ∧ g = fun xs => g0 (xs ++ dds)
section
variable {X : Cx} {W : WX} {e : Expr} {es : List Expr} {t : AM} {m : EM} {pos p : Pos} {x : Str} {g : FM}
/-- the arguments' number is known -/
def ALen (t : AM) (n : Nat) : Prop := ∀ ρ A ds A', t ρ A = .ok ds A' → ds.length = n
theorem alen_nil : ALen aNil 0 := fun ρ A ds A' h => by
  cases h
  rfl
theorem alen_cons {n : Nat} (h : ALen t n) : ALen (aCons m t) (n + 1) := fun ρ A ds A' e => by
  unfold aCons bnd at e
  cases e1 : m ρ A with
  | ok d A1 =>
    rw [e1] at e
    cases e2 : t ρ A1 with
    | ok r A2 =>
      simp only [e2] at e
      cases e
      rw [List.length_cons, h ρ A1 r _ e2]
    | ex c fs A2 => simp only [e2] at e; cases e
    | no => simp only [e2] at e; cases e
  | ex c fs A1 => rw [e1] at e; cases e
  | no => rw [e1] at e; cases e
theorem post.len {K : PySem.W.Frag} {P : Program} {w : World} {σ : L2.St} {μ : List Addr} {H : Hp} {A : AH} {ρ : Fr} {n : Nat} {Q : List Addr → Hp → List D → AH → Prop} (h : post K P w W σ μ H (t ρ A) Q) (l : ALen t n) : post K P w W σ μ H (t ρ A) (fun μ' H' ds A' => Q μ' H' ds A' ∧ ds.length = n) := by
  cases e : t ρ A with
  | ok ds A' =>
    rw [e] at h
    exact fun μ' H' l' r => ⟨h μ' H' l' r, l ρ A ds A' e⟩
  | ex c fs A' => rw [e] at h; exact h
  | no => rw [e] at h; exact h
theorem spf_of {np n : Nat} {g0 : FM} {dds : List D} {dvs : List V} {σ : L2.St} {μ : List Addr} {H : Hp} {A : AH} {ds : List D} {vs : List V} {Q : VK} (hr : HR X.K X.prog X.w μ H A) (hd : DVs X.K μ H ds vs) (hl : ds.length = n) (hn : np = n + dds.length) (hdd : ∀ μ H, DVs X.K μ H dds dvs)
    (p : post X.K X.prog X.w W σ μ H (g0 (ds ++ dds) A) (vQ X.K Q)) : spF X.K X.prog X.w np g0 (vs ++ dvs) H Q (WE W σ) :=
  ⟨by rw [List.length_append, hd.length, (hdd μ H).length, hl, hn], μ, A, _, hr, hd.app (hdd μ H), p.σ fun _ _ _ z => z⟩
theorem de_call {n : Nat} (c : CalOk X x n g) (tk : Takes X W) (hg : Gl X x) (ha : DA X W (e :: es) t) (hl : ALen t n) (hdb : (x == ("__debug__" : Str)) = false) (he : starEach (e :: es) X.env = (false, eval e X.env) :: starEach es X.env) (hpl : (backTo pos (starEach es X.env)).any (·.1) = false) :
    DE X W (.Call (.Name x p) (e :: es) [] pos) (eCall g t) := by
  obtain ⟨k, f, fd, ps, ds, dvs, dds, np, g0, F, rfl, hr, hm, hk, hb, hd, hdd, hn, rfl⟩ := c
  refine ⟨fun pn sv sg Hv Q Iv h => wpAny_Call_Name_kw (ld_glob Iv hg hm ?_ hdb)⟩
  obtain ⟨μ, A, ρ, h1, fr, p⟩ := h
  exact PySem.W.callWith_K (h₀ := X.base) Iv.ok.mod.kin hk (thn (ha.run pos pn sv sg Hv (fun vs H1 => spF X.K X.prog X.w ps.length g0 (vs ++ dvs) H1 Q (WE W sg)) Iv ⟨μ, A, ρ, h1, fr, (p.bnd.len hl).imp fun μ' H' ds A' l r q vs dv => spf_of r dv q.2 hn hdd q.1⟩)
    fun us s1 ⟨vs, H1, I1, r, q⟩ => ⟨I1.kIn, F.go hr hb hd tk I1 r q⟩) he hpl
theorem de_call0 (c : CalOk X x 0 g) (tk : Takes X W) (hg : Gl X x) (hdb : (x == ("__debug__" : Str)) = false) : DE X W (.Call (.Name x p) [] [] pos) (eCall g aNil) := by
  obtain ⟨k, f, fd, ps, ds, dvs, dds, np, g0, F, rfl, hr, hm, hk, hb, hd, hdd, hn, rfl⟩ := c
  refine ⟨fun pn sv sg Hv Q Iv h => wpAny_Call_Name_kw (ld_glob Iv hg hm (PySem.W.callWith_K0 Iv.kIn hk ?_) hdb)⟩
  obtain ⟨μ, A, ρ, h1, fr, q⟩ := h
  exact F.go (us := []) (vs := []) hr hb hd tk Iv .nil (spf_of h1 (ds := []) (vs := []) rfl rfl hn hdd q)
end

/-! ### methods -/
inductive Kd where
  | lst | dic | tup | str | ins (c : Str)
  deriving DecidableEq
def kdOf (A : AH) : D → Option Kd
  | .tup _ => some .tup
  | .frl _ => some .lst
  | .str _ => some .str
  | .ref n => match A[n]? with
    | some (.lst _) => some .lst
    | some (.dic _) => some .dic
    | some (.ins c _) => some (.ins c)
    | _ => none
  | _ => none
/-- the built-in methods that are served -/
def bmD (k : Kd) (name : Str) : Option (D → FM) :=
  if k = .lst then (if name = "append" then some appendD else if name = "extend" then some extendD else if name = "pop" then some lpopD else if name = "index" then some lindexD else none)
  else if k = .dic then (if name = "get" then some dgetD else none)
  else if k = .tup then (if name = "index" then some tindexD else none)
  else none
/-- an own class's methods -/
abbrev Mts := Str → Str → Option (Nat × FM)
/-- no attribute hides the method -/
def noAtt (A : AH) (name : Str) : D → Bool
  | .ref n => match A[n]? with
    | some (.ins _ fs) => (fLook name fs).isNone
    | _ => false
  | _ => false
def methD (T : Mts) (k : Kd) (name : Str) (x : D) (ds : List D) : M D := match k with
  | .ins c => (match T c name with
    | some (np, g) => if ds.length + 1 = np then g (x :: ds) else noM
    | none => noM)
  | k => match bmD k name with
    | some g => g x ds
    | none => noM
def insK : Kd → Bool
  | .ins _ => true
  | _ => false
def hasM (T : Mts) (k : Kd) (name : Str) : Bool := match k with
  | .ins c => (T c name).isSome
  | k => (bmD k name).isSome
/-- the receiver's kind, where the method is there -/
def kdM (T : Mts) (A : AH) (name : Str) (x : D) : Option Kd := match kdOf A x with
  | some k => if hasM T k name = true ∧ (insK k = true → noAtt A name x = true) then some k else none
  | none => none
def eMeth (T : Mts) (name : Str) (o : EM) (t : AM) : EM := fun ρ => bnd (o ρ) fun x A => match kdM T A name x with
  | some k => bnd (t ρ) (methD T k name x) A
  | none => .no
/-- the methods' tables tell true -/
def MtsOk (X : Cx) (T : Mts) : Prop := ∀ c m np g, T c m = some (np, g) → ∃ (k : Nat) (f : Addr) (fd : FuncData) (ps : List Str),
  Cls X.K (He.ga X.K c) ∧ Meth X.K (He.ga X.K c) m f ∧ FnG X.prog X.w X.K X.mg X.base k f fd ps g ∧ ps.length = np ∧ Rm k X.A ∧ Binds X.K fd ps []
section
variable {X : Cx} {W : WX} {o : Expr} {args : List Expr} {t : AM} {mo : EM} {apos pos : Pos} {name : Str} {T : Mts}
theorem kd_is {pins : List (Addr × Obj)} {σ : L2.St} {H : Hp} {s : Shared} {μ : List Addr} {A : AH} {d : D} {x : V} {v : Value} {k : Kd} (I : Inv X pins σ H s) (hr : HR X.K X.prog X.w μ H A) (hd : DV X.K μ H d x) (rx : RelV x v) (e : kdOf A d = some k) :
    (k = .lst ∧ s.TypeIs v "list" ∧ ∀ a, v = .ref a → ∃ ob, s.heap.get? a = some ob ∧ ob.dict = none) ∨ (k = .tup ∧ s.TypeIs v "tuple" ∧ ∀ a, v = .ref a → ∃ ob, s.heap.get? a = some ob ∧ ob.dict = none) ∨
    (k = .dic ∧ s.TypeIs v "dict" ∧ ∀ a, v = .ref a → ∃ ob, s.heap.get? a = some ob ∧ ob.dict = none) ∨ (k = .str) ∨ ∃ c, k = .ins c := by
  have lst : ∀ {a : Addr} {vs : List V}, x = .ref a → SqL X.K H a vs → s.TypeIs v "list" ∧ ∀ a, v = .ref a → ∃ ob, s.heap.get? a = some ob ∧ ob.dict = none := by
    intro a vs e0 hq
    subst e0
    cases rx
    obtain ⟨_, _, pl, _⟩ := I.list hq
    refine ⟨pl.isList.typeIs, fun b e => ?_⟩
    cases e
    obtain ⟨o, n, e, c, hd, _⟩ := pl
    exact ⟨o, e, hd⟩
  cases d with
  | tup xs =>
    cases e
    obtain ⟨a, vs, rfl, tt, _⟩ := hd
    cases rx
    refine .inr (.inl ⟨rfl, ?_, fun b e => ?_⟩)
    · obtain ⟨_, _, pt, _⟩ := I.tuple tt.sq
      exact pt.typeIs
    · cases e
      rcases tt with ⟨_, ob, hdn, h⟩ | ⟨ob, _, _, h1, _, h3, _⟩
      · exact ⟨ob, (show ObjOk X.prog X.w H s.heap a (.frz ob (.tup vs)) from I.hok a _ h).1, hdn⟩
      · exact ⟨ob, I.kIn a ob h1, h3⟩
  | frl xs =>
    cases e
    obtain ⟨a, vs, rfl, tt, _⟩ := hd
    exact .inl ⟨rfl, lst rfl tt.sq⟩
  | str z =>
    cases e
    exact .inr (.inr (.inr (.inl rfl)))
  | ref n =>
    have e : (match A[n]? with
      | some (.lst _) => some Kd.lst
      | some (.dic _) => some Kd.dic
      | some (.ins c _) => some (Kd.ins c)
      | _ => none) = some k := e
    split at e
    · rename_i xs e1
      cases e
      obtain ⟨a, rfl, m⟩ := hd
      obtain ⟨vs, q1, q2⟩ := hr.lst e1 m
      exact .inl ⟨rfl, lst rfl (.of q1)⟩
    · rename_i kvs e1
      cases e
      obtain ⟨a, rfl, m⟩ := hd
      cases rx
      refine .inr (.inr (.inl ⟨rfl, ?_⟩))
      rcases hr.obj n _ a e1 m with ⟨ps, q, _⟩ | ⟨ob, es, ep, xs, q, h1, h2, _⟩
      · obtain ⟨_, _, _, _, ob, _, _, e2, ex, _⟩ := dk_of I.hok q
        exact ⟨⟨ob, e2, ex.1⟩, fun b z => by cases z; exact ⟨ob, e2, ex.2.1⟩⟩
      · have e2 := raw_get I q
        exact ⟨⟨ob, e2, h2.1⟩, fun b z => by cases z; exact ⟨ob, e2, h2.2.1⟩⟩
    · cases e
      exact .inr (.inr (.inr (.inr ⟨_, rfl⟩)))
    · cases e
  | non => cases e
  | exv _ _ _ => cases e
  | bl b => cases e
  | int i => cases e
/-- what stands behind a built-in method's name -/
theorem bm_ok (hu : X.A.units + 66 < cLine) {k : Kd} {g : D → FM} (e : bmD k name = some g) : ∃ Ty id, PlainAttrs Ty ∧ Slot Ty name id ∧ typeOf (.builtin id) = pure (.type "method_descriptor") ∧ MtD X id g ∧
    ((k = .lst ∧ Ty = "list") ∨ (k = .dic ∧ Ty = "dict") ∨ (k = .tup ∧ Ty = "tuple")) := by
  unfold bmD at e
  split at e
  · rename_i hk
    split at e
    · rename_i hn
      cases e
      subst hn
      exact ⟨"list", _, PySem.F.plainAttrs_list, PySem.F.slot_list_append, PySem.F.type_list_append, mt_d_append, .inl ⟨hk, rfl⟩⟩
    · split at e
      · rename_i hn
        cases e
        subst hn
        exact ⟨"list", _, PySem.F.plainAttrs_list, PySem.F.slot_list_extend, PySem.F.type_list_extend, mt_d_extend, .inl ⟨hk, rfl⟩⟩
      · split at e
        · rename_i hn
          cases e
          subst hn
          exact ⟨"list", _, PySem.F.plainAttrs_list, PySem.F.slot_list_pop, PySem.F.type_list_pop, mt_d_pop, .inl ⟨hk, rfl⟩⟩
        · split at e
          · rename_i hn
            cases e
            subst hn
            exact ⟨"list", _, PySem.F.plainAttrs_list, PySem.F.slot_list_index, PySem.F.type_list_index, mt_d_lindex hu, .inl ⟨hk, rfl⟩⟩
          · cases e
  · split at e
    · rename_i hk
      split at e
      · rename_i hn
        cases e
        subst hn
        exact ⟨"dict", _, PySem.F.plainAttrs_dict, PySem.F.slot_dict_get, PySem.F.type_dict_get, mt_d_get (by omega), .inr (.inl ⟨hk, rfl⟩)⟩
      · cases e
    · split at e
      · rename_i hk
        split at e
        · rename_i hn
          cases e
          subst hn
          exact ⟨"tuple", _, PySem.F.plainAttrs_tuple, PySem.F.slot_tuple_index, PySem.F.type_tuple_index, mt_d_tindex hu, .inr (.inr ⟨hk, rfl⟩)⟩
        · cases e
      · cases e
/-- o.m(..), by the method that the object has -/
theorem meth_call {A : Around} {E : Value → Shared → Prop} {s : Shared} {env : Env} {Q : Value → Shared → Prop} {P : Program} {w : World} (hbase : attributeBase o name env (eval o env) = eval o env) (hline : (apos.endLine == pos.line) = true)
    (hform : methodCallForm (args.length + ([] : List Keyword).length) (backTo pos (starEach args env)) (backToKw pos (keywordEach [] env)) = true)
    (h : wpAny (model P w) A (eval o env) (fun ov s1 => wpAny (model P w) A (getMethod ov name (do return (← importBound o env).getD true)) (fun fx s2 => wpAny (model P w) A (callWith pos fx.1 fx.2 (backTo pos (starEach args env)) (backToKw pos (keywordEach [] env))) Q E s2) E s1) E s) :
    wpAny (model P w) A (eval (.Call (.Attribute o name apos) args [] pos) env) Q E s := by
  rw [arm_eval_Call, hbase]
  refine wpAny_bind (wpAny_mono h (fun ov s1 h1 => wpAny_bind (wpAny_standAt ?_)) fun _ _ e => e)
  have hpos : methodCallPos true o env apos pos = pure pos := by unfold methodCallPos; simp [hline]
  unfold methodCall calleeOf
  rw [hform]
  refine wpAny_bind (wpAny_holding ?_)
  rw [if_pos rfl]
  exact wpAny_mono h1 (fun fx s2 h2 => wpAny_bind (wpAny_of_eq hpos h2)) fun _ _ e => e
theorem kdM_ok {A : AH} {d : D} {k : Kd} (e : kdM T A name d = some k) : kdOf A d = some k ∧ hasM T k name = true ∧ (insK k = true → noAtt A name d = true) := by
  unfold kdM at e
  cases ek : kdOf A d with
  | none => rw [ek] at e; cases e
  | some k' =>
    rw [ek] at e
    have e : (if hasM T k' name = true ∧ (insK k' = true → noAtt A name d = true) then some k' else none) = some k := e
    by_cases h : hasM T k' name = true ∧ (insK k' = true → noAtt A name d = true)
    · rw [if_pos h] at e
      cases e
      exact ⟨rfl, h⟩
    · rw [if_neg h] at e
      cases e
theorem de_meth (hu : X.A.units + 66 < cLine) (ok : MtsOk X T) (tk : Takes X W) (ho : DE X W o mo) (hbase : attributeBase o name X.env (eval o X.env) = eval o X.env) (hline : (apos.endLine == pos.line) = true)
    (hform : methodCallForm (args.length + ([] : List Keyword).length) (backTo pos (starEach args X.env)) (backToKw pos (keywordEach [] X.env)) = true)
    (hst : (args = [] ∧ t = aNil) ∨ (DA X W args t ∧ ∃ a0 r, args = a0 :: r ∧ starEach (a0 :: r) X.env = (false, eval a0 X.env) :: starEach r X.env ∧ (backTo pos (starEach r X.env)).any (·.1) = false)) :
    DE X W (.Call (.Attribute o name apos) args [] pos) (eMeth T name mo t) := by
  refine ⟨fun pn sv sg Hv Q Iv h => meth_call hbase hline hform ?_⟩
  have h' : tE X.K X.prog X.w W mo sg Hv (fun x H1 => ∃ μ A ρ d, HR X.K X.prog X.w μ H1 A ∧ FR X.K μ H1 ρ sg ∧ DV X.K μ H1 d x ∧ post X.K X.prog X.w W sg μ H1 ((fun A => match kdM T A name d with
      | some k => bnd (t ρ) (methD T k name d) A
      | none => .no : M D) A) (vQ X.K Q)) := tE_bnd h
  refine thn (ho.run pn sv sg Hv _ Iv h') fun u s1 ⟨x, H1, I1, r1, μ, A, ρ, d, hr, fr, dv, q⟩ => ?_
  cases ek : kdM T A name d with
  | none => simp only [ek] at q; exact q.elim
  | some k =>
    simp only [ek] at q
    obtain ⟨e1, e2, e3⟩ := kdM_ok ek
    -- the arguments come, then go
    have fin : ∀ {f : Value} {first : List Value}, (∀ {us : List Value} {vs : List V} {s2 : Shared} {H2 : Hp} {μ2 : List Addr} {ds : List D} {A2 : AH}, Inv X pn sg H2 s2 → Vals vs us → HR X.K X.prog X.w μ2 H2 A2 → DVs X.K μ2 H2 ds vs → DV X.K μ2 H2 d x → post X.K X.prog X.w W sg μ2 H2 (methD T k name d ds A2) (vQ X.K Q) →
        wpAny (model X.prog X.w) X.A (call f (first ++ us)) (EP X pn sg Q) X.xe s2) →
        ((args = [] ∧ wpAny (model X.prog X.w) X.A (call f (first ++ [])) (EP X pn sg Q) X.xe s1) ∨
          ∃ a0 r, args = a0 :: r ∧ starEach (a0 :: r) X.env = (false, eval a0 X.env) :: starEach r X.env ∧ (backTo pos (starEach r X.env)).any (·.1) = false ∧
            wpAny (model X.prog X.w) X.A (spliced (backTo pos (starEach (a0 :: r) X.env))) (fun us s2 => X.K.In s2.heap ∧ wpAny (model X.prog X.w) X.A (call f (first ++ us)) (EP X pn sg Q) X.xe s2) X.xe s1) := by
      intro f first go
      rcases hst with ⟨rfl, rfl⟩ | ⟨ha, a0, r, rfl, hs1, hs2⟩
      · exact .inl ⟨rfl, go (us := []) (vs := []) I1 .nil hr (ds := []) rfl dv q⟩
      · refine .inr ⟨a0, r, rfl, hs1, hs2, thn (ha.run pos pn s1 sg H1 (fun vs H2 => ∃ μ2 A2 ds, HR X.K X.prog X.w μ2 H2 A2 ∧ DVs X.K μ2 H2 ds vs ∧ DV X.K μ2 H2 d x ∧ post X.K X.prog X.w W sg μ2 H2 (methD T k name d ds A2) (vQ X.K Q)) I1
          ⟨μ, A, ρ, hr, fr, q.bnd.imp fun μ2 H2 ds A2 l2 r2 p2 vs dv2 => ⟨μ2, A2, ds, r2, dv2, dv.le l2, p2⟩⟩) fun us s2 ⟨vs, H2, I2, rv, μ2, A2, ds, h2, dvs, dn, p⟩ => ⟨I2.kIn, go I2 rv h2 dvs dn p⟩⟩
    have own : ∀ c, k = .ins c → wpAny (model X.prog X.w) X.A (getMethod u name (do return (← importBound o X.env).getD true)) (fun fx s2 => wpAny (model X.prog X.w) X.A (callWith pos fx.1 fx.2 (backTo pos (starEach args X.env)) (backToKw pos (keywordEach [] X.env))) (EP X pn sg Q) X.xe s2) X.xe s1 := by
      intro c hk
      subst hk
      have hn := e3 rfl
      obtain ⟨pr, em⟩ := Option.isSome_iff_exists.mp (show (T c name).isSome = true from e2)
      obtain ⟨np, g⟩ := pr
      obtain ⟨k, f, fd, ps, cl, me, F, rfl, hrm, hb⟩ := ok c name np g em
      cases d with
      | ref n =>
        unfold noAtt at hn
        unfold kdOf at e1
        cases eo : A[n]? with
        | none => simp [eo] at hn
        | some ob =>
          cases ob with
          | ins c' fs =>
            simp only [eo] at hn e1
            cases e1
            obtain ⟨a, rfl, m⟩ := id dv
            obtain ⟨dx, vs, q1, q2⟩ := hr.obj n _ a eo m
            cases r1
            refine getmeth_ok I1 q1 cl me (q2.lookN (Option.isNone_iff_eq_none.mp hn)) ?_
            have go : ∀ {us : List Value} {vs : List V} {s2 : Shared} {H2 : Hp} {μ2 : List Addr} {ds : List D} {A2 : AH}, Inv X pn sg H2 s2 → Vals vs us → HR X.K X.prog X.w μ2 H2 A2 → DVs X.K μ2 H2 ds vs → DV X.K μ2 H2 (.ref n) (.ref a) → post X.K X.prog X.w W sg μ2 H2 (methD T (.ins c) name (.ref n) ds A2) (vQ X.K Q) →
                wpAny (model X.prog X.w) X.A (call (.ref f) ([.ref a] ++ us)) (EP X pn sg Q) X.xe s2 := by
              intro us vs s2 H2 μ2 ds A2 I2 rv h2 dvs dn p
              unfold methD at p
              simp only [em] at p
              obtain ⟨hl, p⟩ := ifno p
              refine F.go (us := .ref a :: us) (vs := .ref a :: vs) (dvs := []) (ds := []) (W := W) hrm hb .nil tk I2 (.cons rfl rv) ?_
              rw [List.append_nil]
              exact ⟨by rw [List.length_cons, dvs.length]; exact hl, μ2, A2, .ref n :: ds, h2, ⟨_, _, rfl, dn, dvs⟩, p.σ fun _ _ _ z => z⟩
            rcases fin (f := .ref f) (first := [.ref a]) go with ⟨rfl, z⟩ | ⟨a0, r, rfl, hs1, hs2, z⟩
            · exact PySem.W.callWith_K0 I1.kIn me.kp z
            · exact PySem.W.callWith_K (h₀ := X.base) I1.ok.mod.kin me.kp z hs1 hs2
          | _ => simp [eo] at hn
      | _ => simp [noAtt] at hn
    have blt : ∀ {Ty id : String} {g : D → FM}, bmD k name = some g → insK k = false → PlainAttrs Ty → Slot Ty name id → typeOf (.builtin id) = pure (.type "method_descriptor") → MtD X id g → s1.TypeIs u Ty → (∀ a, u = .ref a → ∃ ob, s1.heap.get? a = some ob ∧ ob.dict = none) →
        wpAny (model X.prog X.w) X.A (getMethod u name (do return (← importBound o X.env).getD true)) (fun fx s2 => wpAny (model X.prog X.w) X.A (callWith pos fx.1 fx.2 (backTo pos (starEach args X.env)) (backToKw pos (keywordEach [] X.env))) (EP X pn sg Q) X.xe s2) X.xe s1 := by
      intro Ty id g eg hk pa slot hty mt t1 t2
      refine getMethod_builtin t1 pa slot hty t2 ?_
      have em : ∀ ds, methD T k name d ds = g d ds := by
        intro ds
        unfold methD
        cases k with
        | ins c => cases hk
        | lst => simp only [eg]
        | dic => simp only [eg]
        | tup => simp only [eg]
        | str => simp only [eg]
      have go : ∀ {us : List Value} {vs : List V} {s2 : Shared} {H2 : Hp} {μ2 : List Addr} {ds : List D} {A2 : AH}, Inv X pn sg H2 s2 → Vals vs us → HR X.K X.prog X.w μ2 H2 A2 → DVs X.K μ2 H2 ds vs → DV X.K μ2 H2 d x → post X.K X.prog X.w W sg μ2 H2 (methD T k name d ds A2) (vQ X.K Q) →
          wpAny (model X.prog X.w) X.A (call (.builtin id) ([u] ++ us)) (EP X pn sg Q) X.xe s2 := by
        intro us vs s2 H2 μ2 ds A2 I2 rv h2 dvs dn p
        rw [em] at p
        exact mt W sg pn s2 sg H2 x vs u us Q I2 r1 rv ⟨μ2, A2, d, ds, h2, dn, dvs, p⟩
      rcases fin (f := .builtin id) (first := [u]) go with ⟨rfl, z⟩ | ⟨a0, r, rfl, hs1, hs2, z⟩
      · exact Calls.callWith_builtin rfl (PySem.evalArgs_none z)
      · show wpAny _ _ (callWith pos (.builtin id) [u] (backTo pos (starEach (a0 :: r) X.env)) []) _ _ _
        rw [hs1] at z ⊢
        refine Calls.callWith_builtin (by show (false || (backTo pos (starEach r X.env)).any (·.1)) = false; rw [hs2] <;> rfl) (Calls.evalArgs_plain ?_)
        exact thn z fun us s2 q => q.2
    have has : insK k = false → ∃ g, bmD k name = some g := by
      intro hk
      cases k with
      | ins c => cases hk
      | lst => exact Option.isSome_iff_exists.mp e2
      | dic => exact Option.isSome_iff_exists.mp e2
      | tup => exact Option.isSome_iff_exists.mp e2
      | str => exact Option.isSome_iff_exists.mp e2
    rcases kd_is I1 hr dv r1 e1 with ⟨rfl, t1, t2⟩ | ⟨rfl, t1, t2⟩ | ⟨rfl, t1, t2⟩ | rfl | ⟨c, hk⟩
    · obtain ⟨g, eg⟩ := has rfl
      obtain ⟨Ty, id, pa, slot, hty, mt, ⟨_, rfl⟩ | ⟨z, _⟩ | ⟨z, _⟩⟩ := bm_ok (X := X) hu eg
      · exact blt eg rfl pa slot hty mt t1 t2
      · cases z
      · cases z
    · obtain ⟨g, eg⟩ := has rfl
      obtain ⟨Ty, id, pa, slot, hty, mt, ⟨z, _⟩ | ⟨z, _⟩ | ⟨_, rfl⟩⟩ := bm_ok (X := X) hu eg
      · cases z
      · cases z
      · exact blt eg rfl pa slot hty mt t1 t2
    · obtain ⟨g, eg⟩ := has rfl
      obtain ⟨Ty, id, pa, slot, hty, mt, ⟨z, _⟩ | ⟨_, rfl⟩ | ⟨z, _⟩⟩ := bm_ok (X := X) hu eg
      · cases z
      · exact blt eg rfl pa slot hty mt t1 t2
      · cases z
    · obtain ⟨g, eg⟩ := has rfl
      obtain ⟨Ty, id, pa, slot, hty, mt, ⟨z, _⟩ | ⟨z, _⟩ | ⟨z, _⟩⟩ := bm_ok (X := X) hu eg <;> cases z
    · exact own c hk
end
end Pi

/-! Pi13: making objects; built-in functions. -/
namespace Pi
open PyProof.Rows PySem L2 PySem.Spec

/-! ### C(..) -/
/-- __init__ runs over the new object -/
def makeD (c : Str) (g : FM) (ds : List D) : M D := fun A => match g (.ref A.length :: ds) (A ++ [.ins c []]) with
  | .ok .non A' => .ok (.ref A.length) A'
  | .ok _ _ => .no
  | .ex c fs A' => .ex c fs A'
  | .no => .no
def eMake (c : Str) (g : FM) (t : AM) : EM := eCall (makeD c g) t
/-- the class called x is made by g, over m arguments -/
def MakOk (X : Cx) (x : Str) (m : Nat) (g : FM) : Prop := ∃ (k : Nat) (f : Addr) (fd : FuncData) (ps : List Str) (ds : List Value) (dvs : List V) (dds : List D) (np : Nat) (g0 : FM),
  Mk X.K (He.ga X.K x) f ∧ FnG X.prog X.w X.K X.mg X.base k f fd ps g0 ∧ ps.length = np ∧ Rm (k + 1) X.A ∧ X.mg x = some (.ref (He.ga X.K x)) ∧ Binds X.K fd ps ds ∧ Vals dvs ds ∧ (∀ μ H, DVs X.K μ H dds dvs) ∧ np = m + 1 + dds.length ∧ g = fun xs => g0 (xs ++ dds)
section
variable {X : Cx} {W : WX} {e : Expr} {es : List Expr} {t : AM} {m : EM} {pos p : Pos} {x : Str} {g : FM}
theorem HR.made {K : PySem.W.Frag} {P : Program} {w : World} {μ : List Addr} {H : Hp} {A : AH} {y dx : Addr} {c : Str} (h : HR K P w μ H A) (hy : H y = none) (hd : H dx = none) (n : dx ≠ y) :
    HR K P w (μ ++ [y]) (upd (upd H dx (.own y)) y (.ins (He.ga K c) dx [])) (A ++ [.ins c []]) ∧ Le μ H (μ ++ [y]) (upd (upd H dx (.own y)) y (.ins (He.ga K c) dx [])) := by
  have h1 : HR K P w μ (upd H dx (.own y)) A := h.add hd
  have e1 : upd H dx (.own y) y = none := by rw [upd_ne (Ne.symm n)]; exact hy
  exact ⟨h1.new e1 ⟨dx, [], upd_same, rfl⟩, (Le.add hd).trans (Le.new e1)⟩
theorem run_mk {pn : List (Addr × Obj)} {sg : L2.St} {Hv : Hp} {sv : Shared} {Q : VK} {us : List Value} {vs : List V} {μ : List Addr} {A : AH} {ds0 : List D} {n : Nat} (c : MakOk X x n g) (tk : Takes X W) (Iv : Inv X pn sg Hv sv) (r : Vals vs us) (hr : HR X.K X.prog X.w μ Hv A) (hd0 : DVs X.K μ Hv ds0 vs) (hl : ds0.length = n)
    (q : post X.K X.prog X.w W sg μ Hv (makeD x g ds0 A) (vQ X.K Q)) : wpAny (model X.prog X.w) X.A (call (.ref (He.ga X.K x)) us) (EP X pn sg Q) X.xe sv := by
  obtain ⟨k, f, fd, ps, ds, dvs, dds, np, g0, M, F, rfl, hrm, hm, hb, hd, hdd, hn, rfl⟩ := c
  have fr1 : Hv (sv.heap.objs.size + 1) = none := Iv.hok.fresh (Nat.le_succ _)
  have fr0 : Hv sv.heap.objs.size = none := Iv.hok.fresh (Nat.le_refl _)
  have ne : sv.heap.objs.size ≠ sv.heap.objs.size + 1 := Nat.ne_of_lt (Nat.lt_succ_self _)
  have I2 := Inv.made (C := He.ga X.K x) Iv
  obtain ⟨hr2, l2⟩ := hr.made (c := x) fr1 fr0 ne
  have r2 : Vals (V.ref (sv.heap.objs.size + 1) :: (vs ++ dvs)) (Value.ref (sv.heap.objs.size + 1) :: (us ++ ds)) := .cons rfl (r.append hd)
  have me : DV X.K (μ ++ [sv.heap.objs.size + 1]) (upd (upd Hv sv.heap.objs.size (.own (sv.heap.objs.size + 1))) (sv.heap.objs.size + 1) (.ins (He.ga X.K x) sv.heap.objs.size [])) (.ref A.length) (.ref (sv.heap.objs.size + 1)) :=
    ⟨_, rfl, by rw [← hr.len, List.getElem?_append_right (Nat.le_refl _)]; simp⟩
  have hsp : spF X.K X.prog X.w ps.length g0 (V.ref (sv.heap.objs.size + 1) :: (vs ++ dvs)) (upd (upd Hv sv.heap.objs.size (.own (sv.heap.objs.size + 1))) (sv.heap.objs.size + 1) (.ins (He.ga X.K x) sv.heap.objs.size [])) (fun v H2 => v = .non ∧ Q (.ref (sv.heap.objs.size + 1)) H2) (WE W sg) := by
    refine ⟨?_, _, A ++ [.ins x []], .ref A.length :: (ds0 ++ dds), hr2, ⟨_, _, rfl, me, (hd0.le l2).app (hdd _ _)⟩, ?_⟩
    · rw [List.length_cons, List.length_append, hd0.length, hl, (hdd [] (fun _ => none)).length, hn]
      omega
    · unfold makeD at q
      have q := q.le l2
      cases eg : g0 (.ref A.length :: (ds0 ++ dds)) (A ++ [.ins x []]) with
      | ok d A' =>
        have eg' : (fun xs => g0 (xs ++ dds)) (.ref A.length :: ds0) (A ++ [.ins x []]) = .ok d A' := eg
        rw [eg'] at q
        cases d with
        | non => exact fun μ' H' l r v dv => ⟨dv, q μ' H' l r _ (me.le l)⟩
        | _ => exact q.elim
      | ex cc fs A' =>
        have eg' : (fun xs => g0 (xs ++ dds)) (.ref A.length :: ds0) (A ++ [.ins x []]) = .ex cc fs A' := eg
        rw [eg'] at q
        exact q
      | no =>
        have eg' : (fun xs => g0 (xs ++ dds)) (.ref A.length :: ds0) (A ++ [.ins x []]) = .no := eg
        rw [eg'] at q
        exact q
  have hlen : (Value.ref (sv.heap.objs.size + 1) :: us ++ ds).length = ps.length := by
    exact r2.length.symm.trans hsp.1
  refine wpAny_call (make_map (f := f) Iv.kIn M.makes M.init (beq_iff_eq.mp M.fn) (codeAny_mono (F _ X.stack _ _ ⟨Value.ref (sv.heap.objs.size + 1) :: us, []⟩ (Value.ref (sv.heap.objs.size + 1) :: (us ++ ds)) _ _ (WE W sg) (hrm.make _ us)
    (I2.env0.make _ us []) (hb _ (Value.ref (sv.heap.objs.size + 1) :: us) I2.kIn hlen) r2 hsp) fun rs s' hq => ?_))
  match rs, hq with
  | .error er, hq => exact passAt tk sg pn _ _ er s' I2 hq
  | .ok (.ret u), hq =>
    obtain ⟨v, H', I3, rv, ev, q3⟩ := I2.after hq
    subst ev
    exact ⟨rv, ⟨V.ref (sv.heap.objs.size + 1), H', I3, rfl, q3⟩⟩
  | .ok .next, hq => exact False.elim hq
  | .ok .brk, hq => exact False.elim hq
  | .ok .cont, hq => exact False.elim hq
theorem de_make {n : Nat} (c : MakOk X x n g) (tk : Takes X W) (hg : Gl X x) (ha : DA X W (e :: es) t) (hl : ALen t n) (hdb : (x == ("__debug__" : Str)) = false) (he : starEach (e :: es) X.env = (false, eval e X.env) :: starEach es X.env) (hpl : (backTo pos (starEach es X.env)).any (·.1) = false) :
    DE X W (.Call (.Name x p) (e :: es) [] pos) (eMake x g t) := by
  obtain ⟨M, hm⟩ : (∃ f, Mk X.K (He.ga X.K x) f) ∧ X.mg x = some (.ref (He.ga X.K x)) := by
    obtain ⟨k, f, fd, ps, ds, dvs, dds, np, g0, M, F, _, hrm, hm, _⟩ := c
    exact ⟨⟨f, M⟩, hm⟩
  obtain ⟨f, M⟩ := M
  refine ⟨fun pn sv sg Hv Q Iv h => wpAny_Call_Name_kw (ld_glob Iv hg hm ?_ hdb)⟩
  obtain ⟨μ, A, ρ, hr, fr, q⟩ := h
  refine PySem.W.callWith_K (h₀ := X.base) Iv.ok.mod.kin M.kp (thn (ha.run pos pn sv sg Hv (fun vs H1 => ∃ μ A ds, HR X.K X.prog X.w μ H1 A ∧ DVs X.K μ H1 ds vs ∧ ds.length = n ∧ post X.K X.prog X.w W sg μ H1 (makeD x g ds A) (vQ X.K Q)) Iv
    ⟨μ, A, ρ, hr, fr, (q.bnd.len hl).imp fun μ' H' ds A' l r q vs dv => ⟨μ', A', ds, r, dv, q.2, q.1⟩⟩) fun us s1 ⟨vs, H1, I1, rv, μ1, A1, ds, h1, dvs, hl1, p1⟩ => ⟨I1.kIn, run_mk c tk I1 rv h1 dvs hl1 p1⟩) he hpl
theorem de_make0 (c : MakOk X x 0 g) (tk : Takes X W) (hg : Gl X x) (hdb : (x == ("__debug__" : Str)) = false) : DE X W (.Call (.Name x p) [] [] pos) (eMake x g aNil) := by
  obtain ⟨M, hm⟩ : (∃ f, Mk X.K (He.ga X.K x) f) ∧ X.mg x = some (.ref (He.ga X.K x)) := by
    obtain ⟨k, f, fd, ps, ds, dvs, dds, np, g0, M, F, _, hrm, hm, _⟩ := c
    exact ⟨⟨f, M⟩, hm⟩
  obtain ⟨f, M⟩ := M
  refine ⟨fun pn sv sg Hv Q Iv h => wpAny_Call_Name_kw (ld_glob Iv hg hm (PySem.W.callWith_K0 Iv.kIn M.kp ?_) hdb)⟩
  obtain ⟨μ, A, ρ, hr, fr, q⟩ := h
  exact run_mk (us := []) (vs := []) c tk Iv .nil hr (ds0 := []) rfl rfl q
end

/-! ### built-in functions -/
def CrD (X : Cx) (f : Value) (g : FM) : Prop := ∀ (W : WX) (σ' : L2.St), CallR X f fun xs H Q => ∃ μ A ds, HR X.K X.prog X.w μ H A ∧ DVs X.K μ H ds xs ∧ post X.K X.prog X.w W σ' μ H (g ds A) (vQ X.K Q)
section
variable {X : Cx} {W : WX} {e : Expr} {es : List Expr} {t : AM} {pos p : Pos} {x : Str} {g : FM} {id T : String}
theorem de_callB (hc : CrD X (.builtin id) g) (hg : Gl X x) (hm : X.mg x = none) (hv : bootBuiltins x = some (.builtin id)) (ha : DA X W (e :: es) t) (hn : x ≠ "__name__") (hdb : (x == ("__debug__" : Str)) = false)
    (he : starEach (e :: es) X.env = (false, eval e X.env) :: starEach es X.env) (hpl : (backTo pos (starEach es X.env)).any (·.1) = false) : DE X W (.Call (.Name x p) (e :: es) [] pos) (eCall g t) :=
  ⟨fun pn sv sg Hv Q Iv h => (pe_callB (hc W sg) hg hm hv ha hn hdb he hpl).run pn sv sg Hv Q Iv (by
    obtain ⟨μ, A, ρ, hr, fr, p⟩ := h
    exact ⟨μ, A, ρ, hr, fr, p.bnd.imp fun μ' H' ds A' l r q vs dv => ⟨μ', A', ds, r, dv, q⟩⟩)⟩
theorem de_callT (hc : CrD X (.type T) g) (hg : Gl X x) (hm : X.mg x = none) (hv : bootBuiltins x = some (.type T)) (ha : DA X W (e :: es) t) (hn : x ≠ "__name__") (hdb : (x == ("__debug__" : Str)) = false)
    (he : starEach (e :: es) X.env = (false, eval e X.env) :: starEach es X.env) (hpl : (backTo pos (starEach es X.env)).any (·.1) = false) : DE X W (.Call (.Name x p) (e :: es) [] pos) (eCall g t) :=
  ⟨fun pn sv sg Hv Q Iv h => (pe_callTy (hc W sg) hg hm hv ha hn hdb he hpl).run pn sv sg Hv Q Iv (by
    obtain ⟨μ, A, ρ, hr, fr, p⟩ := h
    exact ⟨μ, A, ρ, hr, fr, p.bnd.imp fun μ' H' ds A' l r q vs dv => ⟨μ', A', ds, r, dv, q⟩⟩)⟩
end
end Pi

/-! Pi14: len, list, tuple, int, str, repr, max, min, sum, all, any. -/
namespace Pi
open PyProof.Rows PySem L2 PySem.Spec

/-- a value with items, as a list of them -/
def itD (A : AH) : D → Option (List D)
  | .tup xs => some xs
  | .frl xs => some xs
  | .ref n => match A[n]? with
    | some (.lst xs) => some xs
    | _ => none
  | _ => none
def lenB (A : AH) : D → Option Nat
  | .str z => if z.length ≤ sizeLine then some z.length else none
  | .tup xs => some xs.length
  | .frl xs => some xs.length
  | .ref n => match A[n]? with
    | some (.lst xs) => some xs.length
    | some (.dic kvs) => if (kvs.all fun p => keySort p.1 == 1) = true ∨ (kvs.all fun p => keySort p.1 == 2) = true then some kvs.length else none
    | _ => none
  | _ => none
def lenD : FM := fun ds A => match ds with
  | [d] => opt ((lenB A d).map fun (n : Nat) => D.int n) A
  | _ => .no
def listD : FM := fun ds A => match ds with
  | [d] => (match itD A d with
    | some xs => new (.lst xs) A
    | none => .no)
  | _ => .no
def tupleD : FM := fun ds A => match ds with
  | [d] => (match itD A d with
    | some xs => .ok (.tup xs) A
    | none => .no)
  | _ => .no
def intD : FM := fun ds => match ds with
  | [.int i] => ret (.int i)
  | [.bl b] => ret (.int (if b then 1 else 0))
  | _ => noM
def strD : FM := fun ds => match ds with
  | [.int i] => if i.natAbs.log2 < 1920 then ret (.str (toString i)) else noM
  | [.str x] => ret (.str x)
  | _ => noM
def showOk (p : PyData) : Bool := p.showable && (SeqAt.shaped p && decide (p.shown.length ≤ sizeLine))
def reprD : FM := fun ds A => match ds with
  | [d] => (match pyH A d with
    | some p => if showOk p = true then .ok (.str p.shown) A else .no
    | none => .no)
  | _ => .no
def intsOf : List D → Option (List Int)
  | [] => some []
  | .int i :: r => (intsOf r).map (i :: ·)
  | _ :: _ => none
def blsOf : List D → Option (List Bool)
  | [] => some []
  | .bl b :: r => (blsOf r).map (b :: ·)
  | _ :: _ => none
def lstB (A : AH) : D → Option (List D)
  | .frl xs => some xs
  | .ref n => match A[n]? with
    | some (.lst xs) => some xs
    | _ => none
  | _ => none
def maxL (ns : List Int) : Int := ns.foldl max (ns.headD 0)
def minL (ns : List Int) : Int := ns.foldl min (ns.headD 0)
/-- of a list of numbers, not empty -/
def onInts (A : AH) (d : D) (f : List Int → Option D) : R D := match (lstB A d).bind intsOf with
  | some ns => opt (f ns) A
  | none => .no
def maxD : FM := fun ds A => match ds with
  | [.int i, .int j] => .ok (.int (if j > i then j else i)) A
  | [d] => onInts A d fun ns => if ns = [] then none else some (.int (maxL ns))
  | _ => .no
def minD : FM := fun ds A => match ds with
  | [.int i, .int j] => .ok (.int (if j < i then j else i)) A
  | [d] => onInts A d fun ns => if ns = [] then none else some (.int (minL ns))
  | _ => .no
def sumD : FM := fun ds A => match ds with
  | [d] => onInts A d fun ns => some (.int ns.sum)
  | _ => .no
def onBls (A : AH) (d : D) (f : List Bool → Bool) : R D := match (lstB A d).bind blsOf with
  | some bs => .ok (.bl (f bs)) A
  | none => .no
def allD : FM := fun ds A => match ds with
  | [d] => onBls A d fun bs => bs.all id
  | _ => .no
def anyD : FM := fun ds A => match ds with
  | [d] => onBls A d fun bs => bs.any id
  | _ => .no
section
variable {K : PySem.W.Frag} {P : Program} {w : World} {μ : List Addr} {H : Hp} {A : AH}
theorem itD_at (hr : HR K P w μ H A) {d : D} {x : V} {xs : List D} (hd : DV K μ H d x) (e : itD A d = some xs) : ∃ a vs, x = .ref a ∧ (SqL K H a vs ∨ (SqT K H a vs ∧ d = .tup xs)) ∧ DVs K μ H xs vs := by
  unfold itD at e
  split at e
  · cases e
    obtain ⟨a, vs, rfl, t, q⟩ := hd
    exact ⟨a, vs, rfl, .inr ⟨t.sq, rfl⟩, q⟩
  · cases e
    obtain ⟨a, vs, rfl, t, q⟩ := hd
    exact ⟨a, vs, rfl, .inl t.sq, q⟩
  · split at e
    · rename_i e1
      cases e
      obtain ⟨a, rfl, m⟩ := hd
      obtain ⟨vs, q1, q2⟩ := hr.lst e1 m
      exact ⟨a, vs, rfl, .inl (.of q1), q2⟩
    · cases e
  · cases e
theorem lstB_at (hr : HR K P w μ H A) {d : D} {x : V} {xs : List D} (hd : DV K μ H d x) (e : lstB A d = some xs) : ∃ a vs, x = .ref a ∧ SqL K H a vs ∧ DVs K μ H xs vs := by
  unfold lstB at e
  split at e
  · cases e
    obtain ⟨a, vs, rfl, t, q⟩ := hd
    exact ⟨a, vs, rfl, t.sq, q⟩
  · split at e
    · rename_i e1
      cases e
      obtain ⟨a, rfl, m⟩ := hd
      obtain ⟨vs, q1, q2⟩ := hr.lst e1 m
      exact ⟨a, vs, rfl, .of q1, q2⟩
    · cases e
  · cases e
theorem intsOf_at : ∀ {xs : List D} {vs : List V} {ns : List Int}, DVs K μ H xs vs → intsOf xs = some ns → vs = ns.map V.int
  | [], vs, ns, h, e => by
    rw [show vs = [] from h]
    cases e
    rfl
  | d :: r, vs, ns, h, e => by
    obtain ⟨v, w', rfl, h1, h2⟩ := h
    cases d with
    | int i =>
      obtain ⟨ms, e1, rfl⟩ := Option.map_eq_some_iff.mp (show (intsOf r).map (i :: ·) = some ns from e)
      rw [intsOf_at h2 e1, show v = .int i from h1]
      rfl
    | _ => cases e
theorem blsOf_at : ∀ {xs : List D} {vs : List V} {ns : List Bool}, DVs K μ H xs vs → blsOf xs = some ns → vs = ns.map V.bl
  | [], vs, ns, h, e => by
    rw [show vs = [] from h]
    cases e
    rfl
  | d :: r, vs, ns, h, e => by
    obtain ⟨v, w', rfl, h1, h2⟩ := h
    cases d with
    | bl i =>
      obtain ⟨ms, e1, rfl⟩ := Option.map_eq_some_iff.mp (show (blsOf r).map (i :: ·) = some ns from e)
      rw [blsOf_at h2 e1, show v = .bl i from h1]
      rfl
    | _ => cases e
theorem fold_max : ∀ (ns : List Int) (b m : Int), (∀ y ∈ ns, y ≤ m) → b ≤ m → (m ∈ ns ∨ b = m) → ns.foldl max b = m
  | [], b, m, _, _, h => by
    rcases h with h | h
    · simp at h
    · exact h
  | n :: r, b, m, h1, h2, h3 => by
    have hn := h1 n List.mem_cons_self
    refine fold_max r (max b n) m (fun y hy => h1 y (List.mem_cons_of_mem _ hy)) (Int.max_le.mpr ⟨h2, hn⟩) ?_
    rcases h3 with h | h
    · rcases List.mem_cons.mp h with e | h
      · right; omega
      · exact .inl h
    · right; omega
theorem fold_min : ∀ (ns : List Int) (b m : Int), (∀ y ∈ ns, m ≤ y) → m ≤ b → (m ∈ ns ∨ b = m) → ns.foldl min b = m
  | [], b, m, _, _, h => by
    rcases h with h | h
    · simp at h
    · exact h
  | n :: r, b, m, h1, h2, h3 => by
    have hn := h1 n List.mem_cons_self
    refine fold_min r (min b n) m (fun y hy => h1 y (List.mem_cons_of_mem _ hy)) (Int.le_min.mpr ⟨h2, hn⟩) ?_
    rcases h3 with h | h
    · rcases List.mem_cons.mp h with e | h
      · right; omega
      · exact .inl h
    · right; omega
theorem maxL_eq {ns : List Int} {m : Int} (h1 : m ∈ ns) (h2 : ∀ y ∈ ns, y ≤ m) : maxL ns = m := by
  unfold maxL
  refine fold_max ns _ m h2 ?_ (.inl h1)
  cases ns with
  | nil => simp at h1
  | cons n r => exact h2 n List.mem_cons_self
theorem minL_eq {ns : List Int} {m : Int} (h1 : m ∈ ns) (h2 : ∀ y ∈ ns, m ≤ y) : minL ns = m := by
  unfold minL
  refine fold_min ns _ m h2 ?_ (.inl h1)
  cases ns with
  | nil => simp at h1
  | cons n r => exact h2 n List.mem_cons_self
theorem onInts_post {W : WX} {σ : L2.St} {d : D} {x : V} {f : List Int → Option D} {Q : VK} (p : post K P w W σ μ H (onInts A d f) (vQ K Q)) (hr : HR K P w μ H A) (hd : DV K μ H d x) :
    ∃ a ns z, x = .ref a ∧ SqL K H a (ns.map V.int) ∧ f ns = some z ∧ ∀ v, DV K μ H z v → Q v H := by
  unfold onInts at p
  cases e : (lstB A d).bind intsOf with
  | none => simp only [e] at p; exact p.elim
  | some ns =>
    simp only [e] at p
    obtain ⟨xs, e1, e2⟩ := Option.bind_eq_some_iff.mp e
    obtain ⟨z, e3, p⟩ := opt_post p
    obtain ⟨a, vs, rfl, h1, h2⟩ := lstB_at hr hd e1
    rw [intsOf_at h2 e2] at h1
    exact ⟨a, ns, z, rfl, h1, e3, fun v dv => vok p hr dv⟩
theorem onBls_post {W : WX} {σ : L2.St} {d : D} {x : V} {f : List Bool → Bool} {Q : VK} (p : post K P w W σ μ H (onBls A d f) (vQ K Q)) (hr : HR K P w μ H A) (hd : DV K μ H d x) :
    ∃ a bs, x = .ref a ∧ SqL K H a (bs.map V.bl) ∧ Q (.bl (f bs)) H := by
  unfold onBls at p
  cases e : (lstB A d).bind blsOf with
  | none => simp only [e] at p; exact p.elim
  | some bs =>
    simp only [e] at p
    obtain ⟨xs, e1, e2⟩ := Option.bind_eq_some_iff.mp e
    obtain ⟨a, vs, rfl, h1, h2⟩ := lstB_at hr hd e1
    rw [blsOf_at h2 e2] at h1
    exact ⟨a, bs, rfl, h1, vok p hr rfl⟩
end
section
variable {X : Cx}
theorem cd_list : CrD X (.type "list") listD := by
  intro W σ' pins s σ H xs us Q I rs h
  obtain ⟨μ, A, ds, hr, hd, p⟩ := h
  unfold listD at p
  split at p
  · rename_i d
    obtain ⟨x, rfl, dx⟩ := one_dv hd
    cases e : itD A d with
    | none => simp only [e] at p; exact p.elim
    | some ys =>
      simp only [e] at p
      obtain ⟨a, vs, rfl, h1, h2⟩ := itD_at hr dx e
      refine call_list_of pins s σ H _ us Q I rs ⟨a, vs, rfl, ?_, fun l hl => new_lst p hr hl h2⟩
      rcases h1 with h1 | h1
      · exact .inl h1
      · exact .inr h1.1
  · exact p.elim
theorem cd_tuple : CrD X (.type "tuple") tupleD := by
  intro W σ' pins s σ H xs us Q I rs h
  obtain ⟨μ, A, ds, hr, hd, p⟩ := h
  unfold tupleD at p
  split at p
  · rename_i d
    obtain ⟨x, rfl, dx⟩ := one_dv hd
    cases e : itD A d with
    | none => simp only [e] at p; exact p.elim
    | some ys =>
      simp only [e] at p
      obtain ⟨a, vs, rfl, h1, h2⟩ := itD_at hr dx e
      refine call_tupF pins s σ H _ us Q I rs ⟨a, vs, rfl, ?_⟩
      rcases h1 with h1 | ⟨h1, rfl⟩
      · exact .inl ⟨h1, new_tup p hr h2⟩
      · exact .inr ⟨h1, vok p hr dx⟩
  · exact p.elim
theorem cd_int : CrD X (.type "int") intD := by
  intro W σ' pins s σ H xs us Q I rs h
  obtain ⟨μ, A, ds, hr, hd, p⟩ := h
  unfold intD at p
  split at p
  · obtain ⟨x, rfl, rfl⟩ := one_dv hd
    exact call_int1 pins s σ H _ us Q I rs (.inl ⟨_, rfl, vok p hr rfl⟩)
  · obtain ⟨x, rfl, rfl⟩ := one_dv hd
    exact call_int1 pins s σ H _ us Q I rs (.inr ⟨_, rfl, vok p hr rfl⟩)
  · exact p.elim
theorem cd_str : CrD X (.type "str") strD := by
  intro W σ' pins s σ H xs us Q I rs h
  obtain ⟨μ, A, ds, hr, hd, p⟩ := h
  unfold strD at p
  split at p
  · obtain ⟨x, rfl, rfl⟩ := one_dv hd
    obtain ⟨hz, p⟩ := ifno p
    exact call_str_int pins s σ H _ us Q I rs ⟨_, rfl, hz, vok p hr rfl⟩
  · obtain ⟨x, rfl, rfl⟩ := one_dv hd
    exact SkE.call_str_str pins s σ H _ us Q I rs ⟨_, rfl, vok p hr rfl⟩
  · exact p.elim
theorem cd_len : CrD X (.builtin "len") lenD := by
  intro W σ' pins s σ H xs us Q I rs h
  obtain ⟨μ, A, ds, hr, hd, p⟩ := h
  unfold lenD at p
  split at p
  · rename_i d
    obtain ⟨x, rfl, dx⟩ := one_dv hd
    obtain ⟨z, e0, p⟩ := opt_post p
    obtain ⟨n, e, rfl⟩ := Option.map_eq_some_iff.mp e0
    have fin : Q (.int n) H := vok p hr rfl
    have seq : ∀ {a : Addr} {vs : List V} {ys : List D}, x = .ref a → (SqL X.K H a vs ∨ SqT X.K H a vs) → DVs X.K μ H ys vs → n = ys.length → wpAny (model X.prog X.w) X.A (call (.builtin "len") us) (EP X pins σ Q) X.xe s := by
      intro a vs ys e0 hq hv hn
      subst e0
      refine call_len pins s σ H _ us Q I rs ⟨_, n, rfl, ?_, fin⟩
      rcases hq with hq | hq
      · exact .inl ⟨vs, hq, by rw [hv.length]; exact hn⟩
      · exact .inr ⟨vs, hq, by rw [hv.length]; exact hn⟩
    unfold lenB at e
    split at e
    · obtain rfl := dx
      split at e
      · rename_i hz
        cases e
        exact call_len pins s σ H _ us Q I rs ⟨_, _, rfl, ⟨hz, rfl⟩, fin⟩
      · cases e
    · cases e
      obtain ⟨a, vs, rfl, t, q⟩ := dx
      exact seq rfl (.inr t.sq) q rfl
    · cases e
      obtain ⟨a, vs, rfl, t, q⟩ := dx
      exact seq rfl (.inl t.sq) q rfl
    · split at e
      · rename_i e1
        cases e
        obtain ⟨a, rfl, m⟩ := dx
        obtain ⟨vs, q1, q2⟩ := hr.lst e1 m
        exact seq rfl (.inl (.of q1)) q2 rfl
      · rename_i kvs e1
        obtain ⟨a, rfl, m⟩ := dx
        split at e
        · rename_i hk
          cases e
          obtain ⟨u, rfl, ru⟩ := Vals.one rs
          cases ru
          rcases hk with hk | hk
          · obtain ⟨H', I', hr', l, ps, ea, kd⟩ := dic_as1 I hr e1 m fun p hp => beq_iff_eq.mp (List.all_eq_true.mp hk p hp)
            exact d_len I' (.inl ea) fun t s' I2 => ⟨.int _, H', I2, ⟨t, rfl⟩, by rw [kd.length]; exact vok (p.le l) hr' rfl⟩
          · obtain ⟨H', I', hr', l, o0, zs, ea, hb, hl, dh, td⟩ := dic_as2 I hr e1 m fun p hp => beq_iff_eq.mp (List.all_eq_true.mp hk p hp)
            refine call_len_dictH hb dh (by rw [td.length]; rw [sizeLine_eq] at hl; omega) ⟨.int _, H', I'.tok _, ⟨_, rfl⟩, ?_⟩
            rw [td.length]
            exact vok (p.le l) hr' rfl
        · cases e
      · cases e
    · cases e
  · exact p.elim
theorem cd_repr (hu : X.A.units + 100 < cLine) (hg : X.A.guards = some []) : CrD X (.builtin "repr") reprD := by
  intro W σ' pins s σ H xs us Q I rs h
  obtain ⟨μ, A, ds, hr, hd, p⟩ := h
  unfold reprD at p
  split at p
  · rename_i d
    obtain ⟨x, rfl, dx⟩ := one_dv hd
    obtain ⟨u, rfl, ru⟩ := Vals.one rs
    cases e : pyH A d with
    | none => simp only [e] at p; exact p.elim
    | some q =>
      simp only [e] at p
      split at p
      · rename_i ok
        obtain ⟨h1, ok⟩ := Bool.and_eq_true_iff.mp ok
        obtain ⟨h2, h3⟩ := Bool.and_eq_true_iff.mp ok
        have h3 := of_decide_eq_true h3
        have fin : ∀ (tk : Nat) (t : Tok) (h' : Heap), (∀ b o, s.heap.get? b = some o → h'.get? b = some o) → EP X pins σ Q (.str q.shown t) { s with heap := h', toks := tk } := fun tk t h' k => ⟨.str _, H, I.kept k, ⟨t, rfl⟩, vok p hr rfl⟩
        have hdp := pyH_dp hr dx e
        obtain ⟨as, rd⟩ := Dp.reads I q x u hdp ru
        cases rd with
        | none => exact PySem.P.repr_of_none (fin _ _ _ fun _ _ z => z)
        | bool b => exact PySem.P.repr_of_bool (fin _ _ _ fun _ _ z => z)
        | int i t => exact PySem.P.repr_of_int (of_decide_eq_true h1) (fin _ _ _ fun _ _ z => z)
        | str y t => exact PySem.P.repr_of_str (hsz := h3) (fin _ _ _ fun _ _ z => z)
        | list ho hc hdt hs => exact repr_of_reads' (hsz := h3) (.list ho hc hdt hs) h1 (PyData.noDict_hsm (PyData.hasDict_of_canLay _ (SeqAt.canLay_of_shaped h2))) hg (by have := SeqAt.depth_of_shaped h2; omega) (fun _ _ z => z) fun h' t tk k => fin tk t h' k
        | tuple ho hc hdt hs => exact repr_of_reads' (hsz := h3) (.tuple ho hc hdt hs) h1 (PyData.noDict_hsm (PyData.hasDict_of_canLay _ (SeqAt.canLay_of_shaped h2))) hg (by have := SeqAt.depth_of_shaped h2; omega) (fun _ _ z => z) fun h' t tk k => fin tk t h' k
        | dict => cases hdp
      · exact p.elim
  · exact p.elim
theorem cd_max (hc : X.calm = true) : CrD X (.builtin "max") maxD := by
  intro W σ' pins s σ H xs us Q I rs h
  obtain ⟨μ, A, ds, hr, hd, p⟩ := h
  unfold maxD at p
  split at p
  · obtain ⟨x, y, rfl, rfl, rfl⟩ := two_dv hd
    exact call_max2 hc pins s σ H _ us Q I rs ⟨_, _, rfl, vok p hr rfl⟩
  · obtain ⟨x, rfl, dx⟩ := one_dv hd
    obtain ⟨a, ns, z, rfl, h1, h2, h3⟩ := onInts_post p hr dx
    split at h2
    · cases h2
    · rename_i hn
      cases h2
      refine cr_max hc pins s σ H _ us Q I rs ⟨a, ns, rfl, h1, List.length_pos_iff.mpr hn, fun m k1 k2 => ?_⟩
      rw [← maxL_eq k1 k2]
      exact h3 _ rfl
  · exact p.elim
theorem cd_min (hc : X.calm = true) : CrD X (.builtin "min") minD := by
  intro W σ' pins s σ H xs us Q I rs h
  obtain ⟨μ, A, ds, hr, hd, p⟩ := h
  unfold minD at p
  split at p
  · obtain ⟨x, y, rfl, rfl, rfl⟩ := two_dv hd
    exact call_min2 hc pins s σ H _ us Q I rs ⟨_, _, rfl, vok p hr rfl⟩
  · obtain ⟨x, rfl, dx⟩ := one_dv hd
    obtain ⟨a, ns, z, rfl, h1, h2, h3⟩ := onInts_post p hr dx
    split at h2
    · cases h2
    · rename_i hn
      cases h2
      refine cr_min hc pins s σ H _ us Q I rs ⟨a, ns, rfl, h1, List.length_pos_iff.mpr hn, fun m k1 k2 => ?_⟩
      rw [← minL_eq k1 k2]
      exact h3 _ rfl
  · exact p.elim
theorem cd_sum (hc : X.calm = true) : CrD X (.builtin "sum") sumD := by
  intro W σ' pins s σ H xs us Q I rs h
  obtain ⟨μ, A, ds, hr, hd, p⟩ := h
  unfold sumD at p
  split at p
  · obtain ⟨x, rfl, dx⟩ := one_dv hd
    obtain ⟨a, ns, z, rfl, h1, h2, h3⟩ := onInts_post p hr dx
    cases h2
    exact cr_sum hc pins s σ H _ us Q I rs ⟨a, ns, rfl, h1, h3 _ rfl⟩
  · exact p.elim
theorem cd_all (hc : X.calm = true) : CrD X (.builtin "all") allD := by
  intro W σ' pins s σ H xs us Q I rs h
  obtain ⟨μ, A, ds, hr, hd, p⟩ := h
  unfold allD at p
  split at p
  · obtain ⟨x, rfl, dx⟩ := one_dv hd
    obtain ⟨a, bs, rfl, h1, q⟩ := onBls_post p hr dx
    exact cr_all hc pins s σ H _ us Q I rs ⟨a, bs, rfl, h1, q⟩
  · exact p.elim
theorem cd_any (hc : X.calm = true) : CrD X (.builtin "any") anyD := by
  intro W σ' pins s σ H xs us Q I rs h
  obtain ⟨μ, A, ds, hr, hd, p⟩ := h
  unfold anyD at p
  split at p
  · obtain ⟨x, rfl, dx⟩ := one_dv hd
    obtain ⟨a, bs, rfl, h1, q⟩ := onBls_post p hr dx
    exact cr_any hc pins s σ H _ us Q I rs ⟨a, bs, rfl, h1, q⟩
  · exact p.elim
end
end Pi

/-! Pi15: list comprehensions. -/
namespace Pi
open PyProof.Rows PySem L2 PySem.Spec

/-- the names of a block's target -/
inductive Tgt where
  | one (i : Nat)
  | tup (is : List Nat)
def Tgt.ix : Tgt → List Nat
  | .one i => [i]
  | .tup is => is
def setAll {α : Type} : List (Option α) → List Nat → List α → List (Option α)
  | ρ, i :: is, d :: ds => setAll (ρ.set i (some d)) is ds
  | ρ, _, _ => ρ
def wipeF (ρ : Fr) : List Nat → Fr
  | [] => ρ
  | v :: vs => (wipeF ρ vs).set v none
/-- what the names stand for -/
def bindT (A : AH) (d : D) (ρ : Fr) : Tgt → Option Fr
  | .one i => some (setAll ρ [i] [d])
  | .tup is => match itemsOf A d with
    | some ds => if ds.length = is.length then some (setAll ρ is ds) else none
    | none => none
open Classical in
noncomputable def limR {α : Type} (f : Nat → R α) : R α := if h : ∃ n, f n ≠ .no then f (Classical.choose h) else .no
def tYesM : TM := fun _ => ret true
def compN (s : Src) (tg : Tgt) (tt : TM) (te : EM) (ρ : Fr) : Nat → Nat → List D → AH → R (List D)
  | 0, _, _, _ => .no
  | n + 1, i, acc, A => match s i A with
    | none => .no
    | some none => .ok acc A
    | some (some d) => (match bindT A d ρ tg with
      | none => .no
      | some ρ1 => (match tt ρ1 A with
        | .ok true A1 => (match te ρ1 A1 with
          | .ok y A2 => if acc.length < sizeLine then compN s tg tt te ρ n (i + 1) (acc ++ [y]) A2 else .no
          | _ => .no)
        | .ok false A1 => compN s tg tt te ρ n (i + 1) acc A1
        | _ => .no))
noncomputable def eLc (ms : Fr → M Src) (tg : Tgt) (tt : TM) (te : EM) (vs : List Nat) : EM := fun ρ => bnd (ms ρ) fun s A => match limR fun n => compN s tg tt te (wipeF ρ vs) n 0 [] A with
  | .ok xs A' => new (.lst xs) A'
  | _ => .no

/-! ### the slots -/
section
variable {K : PySem.W.Frag} {P : Program} {w : World} {μ : List Addr} {H : Hp}
theorem FR.wiped {ρ : Fr} {σ : L2.St} (f : FR K μ H ρ σ) : ∀ vs, FR K μ H (wipeF ρ vs) (L2.wipe σ vs)
  | [] => f
  | v :: vs => by
    have ih := FR.wiped f vs
    refine ⟨by unfold wipeF L2.wipe; rw [List.length_set, List.length_set, ih.len], fun i d e => ?_⟩
    unfold wipeF at e
    unfold L2.wipe
    by_cases hv : v = i
    · subst hv
      by_cases hl : v < (wipeF ρ vs).length
      · rw [List.getElem?_set_self hl] at e
        cases e
      · rw [List.getElem?_eq_none (by rw [List.length_set]; omega)] at e
        cases e
    · rw [List.getElem?_set_ne hv] at e ⊢
      exact ih.at_ i d e
theorem FR.putAll : ∀ {is : List Nat} {ds : List D} {vs : List V} {ρ : Fr} {σ : L2.St}, FR K μ H ρ σ → DVs K μ H ds vs → FR K μ H (Pi.setAll ρ is ds) (Pi.setAll σ is vs)
  | [], ds, vs, ρ, σ, f, h => f
  | i :: is, [], vs, ρ, σ, f, h => by
    rw [show vs = [] from h]
    exact f
  | i :: is, d :: ds, vs, ρ, σ, f, h => by
    obtain ⟨v, r, rfl, h1, h2⟩ := h
    exact FR.putAll (is := is) (ds := ds) (vs := r) (ρ := ρ.set i (some d)) (σ := σ.set i (some v)) (FR.set f h1) h2
theorem wipe_set {σ : L2.St} {i : Nat} {x : Option V} : ∀ {vs : List Nat}, i ∈ vs → L2.wipe (σ.set i x) vs = L2.wipe σ vs
  | [], h => by simp at h
  | v :: vs, h => by
    unfold L2.wipe
    by_cases hi : i ∈ vs
    · rw [wipe_set hi]
    · have hv : i = v := by
        rcases List.mem_cons.mp h with e | e
        · exact e
        · exact absurd e hi
      subst hv
      have e : ∀ us : List Nat, i ∉ us → L2.wipe (σ.set i x) us = (L2.wipe σ us).set i x := by
        intro us
        induction us with
        | nil => intro _; rfl
        | cons u us ih =>
          intro hu
          rw [List.mem_cons, not_or] at hu
          unfold L2.wipe
          rw [ih hu.2, List.set_comm _ _ hu.1]
      rw [e vs hi, List.set_set]
theorem wipe_setAll : ∀ {is : List Nat} {xs : List V} {σ : L2.St} {vs : List Nat}, (∀ i ∈ is, i ∈ vs) → L2.wipe (setAll σ is xs) vs = L2.wipe σ vs
  | [], xs, σ, vs, h => rfl
  | i :: is, [], σ, vs, h => rfl
  | i :: is, x :: xs, σ, vs, h => by
    have z := wipe_setAll (is := is) (xs := xs) (σ := σ.set i (some x)) (vs := vs) fun j hj => h j (List.mem_cons_of_mem _ hj)
    exact z.trans (wipe_set (h i List.mem_cons_self))
theorem wipe_none {σ : L2.St} {v : Nat} : ∀ {vs : List Nat}, v ∈ vs → v < σ.length → (L2.wipe σ vs)[v]? = some none
  | [], h, _ => by simp at h
  | u :: vs, h, hl => by
    unfold L2.wipe
    by_cases e : u = v
    · subst e
      rw [List.getElem?_set_self (by rw [wipe_length]; exact hl)]
    · rw [List.getElem?_set_ne e]
      rcases List.mem_cons.mp h with z | z
      · exact absurd z.symm e
      · exact wipe_none z hl
theorem wipe_idem (σ : L2.St) (vs : List Nat) : L2.wipe (L2.wipe σ vs) vs = L2.wipe σ vs := by
  have key : ∀ (us : List Nat), (∀ u ∈ us, u ∈ vs) → L2.wipe (L2.wipe σ vs) us = L2.wipe σ vs := by
    intro us
    induction us with
    | nil => intro _; rfl
    | cons u us ih =>
      intro h
      have z := ih fun x hx => h x (List.mem_cons_of_mem _ hx)
      show (L2.wipe (L2.wipe σ vs) us).set u none = _
      rw [z]
      apply List.ext_getElem?
      intro i
      by_cases e : u = i
      · subst e
        by_cases hl : u < σ.length
        · rw [List.getElem?_set_self (by rw [wipe_length]; exact hl), wipe_none (h u List.mem_cons_self) hl]
        · rw [List.getElem?_eq_none (by rw [List.length_set, wipe_length]; omega), List.getElem?_eq_none (by rw [wipe_length]; omega)]
      · rw [List.getElem?_set_ne e]
  exact key vs fun u h => h
end
/-- nothing that a value tells of is at the address: no frozen thing, no exception, no exception's dict -/
def Plain (H : Hp) (a : Addr) : Prop := (∀ o u, H a ≠ some (HO.frz o u)) ∧ (∀ C d, H a ≠ some (exg a C d)) ∧ ∀ fs, H a ≠ some (HO.xd fs)
theorem plain_lst {H : Hp} {a : Addr} {zs : List V} (e : H a = some (.lst zs)) : Plain H a := by
  refine ⟨fun o u z => ?_, fun C d z => ?_, fun fs z => ?_⟩ <;> rw [e] at z
  · cases z
  · unfold exg at z; cases z
  · cases z
theorem plain_dk {H : Hp} {a : Addr} {zs : List (Key × V)} (e : H a = some (.dK zs)) : Plain H a := by
  refine ⟨fun o u z => ?_, fun C d z => ?_, fun fs z => ?_⟩ <;> rw [e] at z
  · cases z
  · unfold exg at z; cases z
  · cases z
/-! ### a list that joins -/
section
variable {K : PySem.W.Frag} {P : Program} {w : World} {μ : List Addr} {H : Hp} {Dx : Addr} {xs : List V}
mutual
theorem DV.join (h0 : Plain H Dx) : ∀ (d : D) (v : V), DV K μ H d v → DV K (μ ++ [Dx]) H d v
  | .non, _, h => h
  | .bl _, _, h => h
  | .int _, _, h => h
  | .str _, _, h => h
  | .tup ds, v, h => by
    obtain ⟨p, vs, e, t, q⟩ := h
    refine ⟨p, vs, e, ?_, DVs.join h0 ds vs q⟩
    rcases t with ⟨n, o, hd, t⟩ | t
    · refine .inl ⟨fun m => ?_, o, hd, t⟩
      rcases List.mem_append.mp m with m | m
      · exact n m
      · rw [List.mem_singleton.mp m] at t
        exact h0.1 _ _ t
    · exact .inr t
  | .frl ds, v, h => by
    obtain ⟨p, vs, e, t, q⟩ := h
    refine ⟨p, vs, e, ?_, DVs.join h0 ds vs q⟩
    rcases t with ⟨n, o, t⟩ | t
    · refine .inl ⟨fun m => ?_, o, t⟩
      rcases List.mem_append.mp m with m | m
      · exact n m
      · rw [List.mem_singleton.mp m] at t
        exact h0.1 _ _ t
    · exact .inr t
  | .exv c fs ds, v, h => by
    obtain ⟨p, vs, e, l, t, q⟩ := h
    refine ⟨p, vs, e, l, ?_, DVs.join h0 ds vs q⟩
    have out : ∀ {b : Addr} {o : HO}, H b = some o → b ∉ μ → (b = Dx → False) → b ∉ μ ++ [Dx] := fun hb n ne m => by
      rcases List.mem_append.mp m with m | m
      · exact n m
      · exact ne (List.mem_singleton.mp m)
    obtain ⟨n, ⟨e, t⟩ | ⟨d, t, nd, hd⟩⟩ := t
    · exact ⟨out t n fun z => h0.2.1 _ _ (by rw [← z]; exact t), .inl ⟨e, t⟩⟩
    · exact ⟨out t n fun z => h0.2.1 _ _ (by rw [← z]; exact t), .inr ⟨d, t, out hd nd (fun z => h0.2.2 _ (by rw [← z]; exact hd)), hd⟩⟩
  | .ref n, v, h => by
    obtain ⟨x, e, q⟩ := h
    refine ⟨x, e, ?_⟩
    rw [List.getElem?_append_left (List.getElem?_eq_some_iff.mp q).1]
    exact q
theorem DVs.join (h0 : Plain H Dx) : ∀ (ds : List D) (vs : List V), DVs K μ H ds vs → DVs K (μ ++ [Dx]) H ds vs
  | [], _, h => h
  | d :: ds, vs, h => by
    obtain ⟨v, r, e, h1, h2⟩ := h
    exact ⟨v, r, e, DV.join h0 d v h1, DVs.join h0 ds r h2⟩
end
theorem FVs.join (h0 : Plain H Dx) : ∀ {fs : List (Str × D)} {vs : List (Str × V)}, FVs K μ H fs vs → FVs K (μ ++ [Dx]) H fs vs
  | [], _, h => h
  | (f, d) :: t, vs, h => by
    obtain ⟨v, r, e, h1, h2⟩ := h
    exact ⟨v, r, e, DV.join h0 _ _ h1, FVs.join h0 h2⟩
theorem KDs.join (h0 : Plain H Dx) : ∀ {fs : List (D × D)} {vs : List (Key × V)}, KDs K μ H fs vs → KDs K (μ ++ [Dx]) H fs vs
  | [], _, h => h
  | (f, d) :: t, vs, h => by
    obtain ⟨q, v, r, e, h1, h2, h3⟩ := h
    exact ⟨q, v, r, e, h1, DV.join h0 _ _ h2, KDs.join h0 h3⟩
theorem TDs.join (h0 : Plain H Dx) : ∀ {fs : List (D × D)} {vs : List (NestedKey × Addr × Value)}, TDs K μ H fs vs → TDs K (μ ++ [Dx]) H fs vs
  | [], _, h => h
  | (f, d) :: t, vs, h => by
    obtain ⟨q, a, u, v, r, e, h1, h2, h3, h4, h5, h6⟩ := h
    exact ⟨q, a, u, v, r, e, h1, h2, DV.join h0 _ _ h3, DV.join h0 _ _ h4, h5, TDs.join h0 h6⟩
theorem OR.join (h0 : Plain H Dx) {a : Addr} {o : AO} (h : OR K P w μ H a o) : OR K P w (μ ++ [Dx]) H a o := by
  cases o with
  | lst ds =>
    obtain ⟨vs, e1, q⟩ := h
    exact ⟨vs, e1, DVs.join h0 _ _ q⟩
  | dic kvs =>
    obtain ⟨ps, e1, q⟩ | ⟨o, es, ep, xs, e1, r1, r2, r3, r4, r5, r6, q⟩ := h
    · exact .inl ⟨ps, e1, q.join h0⟩
    · exact .inr ⟨o, es, ep, xs, e1, r1, r2, r3, r4, r5, r6, q.join h0⟩
  | ins c fs =>
    obtain ⟨dx, vs, e1, q⟩ := h
    exact ⟨dx, vs, e1, q.join h0⟩
theorem HR.join {A : AH} {ao : AO} (h : HR K P w μ H A) (h0 : Plain H Dx) (n : Dx ∉ μ) (q : OR K P w (μ ++ [Dx]) H Dx ao) : HR K P w (μ ++ [Dx]) H (A ++ [ao]) := by
  refine ⟨by rw [List.length_append, List.length_append, h.len]; rfl, List.nodup_append.mpr ⟨h.nd, by simp, fun a ha b hb z => ?_⟩, fun i u a h1 h2 => ?_⟩
  · rw [List.mem_singleton.mp hb] at z
    exact n (z ▸ ha)
  · by_cases hi : i < A.length
    · rw [List.getElem?_append_left hi] at h1
      rw [List.getElem?_append_left (by rw [h.len]; exact hi)] at h2
      exact OR.join h0 (h.obj i u a h1 h2)
    · rw [List.getElem?_append_right (by omega)] at h1
      rw [List.getElem?_append_right (by rw [h.len]; omega), h.len] at h2
      cases hk : i - A.length with
      | zero =>
        rw [hk] at h1 h2
        simp at h1 h2
        subst h1 h2
        exact q
      | succ k =>
        rw [hk] at h1
        simp at h1
theorem Le.join {μ0 : List Addr} {H0 : Hp} (l : Le μ0 H0 μ H) (n : H0 Dx = none) : Le μ0 H0 (μ ++ [Dx]) H := by
  refine ⟨?_, l.keep, l.tab, fun b o h m z => ?_⟩
  · obtain ⟨t, e⟩ := l.pre
    exact ⟨t ++ [Dx], by rw [e, List.append_assoc]⟩
  · rcases List.mem_append.mp z with z | z
    · exact l.out b o h m z
    · rw [List.mem_singleton.mp z, n] at h
      cases h
end
/-! ### an object that is not of the heap is written -/
section
variable {K : PySem.W.Frag} {P : Program} {w : World} {μ : List Addr} {H : Hp} {Dx : Addr} {u : HO}
mutual
theorem DV.off (h0 : Plain H Dx) : ∀ (d : D) (v : V), DV K μ H d v → DV K μ (upd H Dx u) d v
  | .non, _, h => h
  | .bl _, _, h => h
  | .int _, _, h => h
  | .str _, _, h => h
  | .tup ds, v, h => by
    obtain ⟨p, vs, e, t, q⟩ := h
    refine ⟨p, vs, e, ?_, DVs.off h0 ds vs q⟩
    rcases t with ⟨n, o, hd, t⟩ | t
    · refine .inl ⟨n, o, hd, ?_⟩
      rw [upd_ne fun z => h0.1 o (.tup vs) (by rw [← z]; exact t)]
      exact t
    · exact .inr t
  | .frl ds, v, h => by
    obtain ⟨p, vs, e, t, q⟩ := h
    refine ⟨p, vs, e, ?_, DVs.off h0 ds vs q⟩
    rcases t with ⟨n, o, t⟩ | t
    · refine .inl ⟨n, o, ?_⟩
      rw [upd_ne fun z => h0.1 o (.lst vs) (by rw [← z]; exact t)]
      exact t
    · exact .inr t
  | .exv c fs ds, v, h => by
    obtain ⟨p, vs, e, l, t, q⟩ := h
    refine ⟨p, vs, e, l, ?_, DVs.off h0 ds vs q⟩
    obtain ⟨n, ⟨e, t⟩ | ⟨d, t, nd, hd⟩⟩ := t
    · exact ⟨n, .inl ⟨e, by rw [upd_ne fun z => h0.2.1 _ _ (by rw [← z]; exact t)]; exact t⟩⟩
    · exact ⟨n, .inr ⟨d, by rw [upd_ne fun z => h0.2.1 _ _ (by rw [← z]; exact t)]; exact t, nd, by rw [upd_ne fun z => h0.2.2 _ (by rw [← z]; exact hd)]; exact hd⟩⟩
  | .ref n, v, h => h
theorem DVs.off (h0 : Plain H Dx) : ∀ (ds : List D) (vs : List V), DVs K μ H ds vs → DVs K μ (upd H Dx u) ds vs
  | [], _, h => h
  | d :: ds, vs, h => by
    obtain ⟨v, r, e, h1, h2⟩ := h
    exact ⟨v, r, e, DV.off h0 d v h1, DVs.off h0 ds r h2⟩
end
theorem FVs.off (h0 : Plain H Dx) : ∀ {fs : List (Str × D)} {vs : List (Str × V)}, FVs K μ H fs vs → FVs K μ (upd H Dx u) fs vs
  | [], _, h => h
  | (f, d) :: t, vs, h => by
    obtain ⟨v, r, e, h1, h2⟩ := h
    exact ⟨v, r, e, DV.off h0 _ _ h1, FVs.off h0 h2⟩
theorem KDs.off (h0 : Plain H Dx) : ∀ {fs : List (D × D)} {vs : List (Key × V)}, KDs K μ H fs vs → KDs K μ (upd H Dx u) fs vs
  | [], _, h => h
  | (f, d) :: t, vs, h => by
    obtain ⟨q, v, r, e, h1, h2, h3⟩ := h
    exact ⟨q, v, r, e, h1, DV.off h0 _ _ h2, KDs.off h0 h3⟩
theorem TDs.off (h0 : Plain H Dx) : ∀ {fs : List (D × D)} {vs : List (NestedKey × Addr × Value)}, TDs K μ H fs vs → TDs K μ (upd H Dx u) fs vs
  | [], _, h => h
  | (f, d) :: t, vs, h => by
    obtain ⟨q, a, u, v, r, e, h1, h2, h3, h4, h5, h6⟩ := h
    exact ⟨q, a, u, v, r, e, h1, h2, DV.off h0 _ _ h3, DV.off h0 _ _ h4, h5, TDs.off h0 h6⟩
theorem OR.off (h0 : Plain H Dx) {a : Addr} {o : AO} (h : OR K P w μ H a o) (n : a ≠ Dx) : OR K P w μ (upd H Dx u) a o := by
  cases o with
  | lst ds =>
    obtain ⟨vs, e1, q⟩ := h
    exact ⟨vs, by rw [upd_ne n]; exact e1, DVs.off h0 _ _ q⟩
  | dic kvs =>
    obtain ⟨ps, e1, q⟩ | ⟨o, es, ep, xs, e1, r1, r2, r3, r4, r5, r6, q⟩ := h
    · exact .inl ⟨ps, by rw [upd_ne n]; exact e1, q.off h0⟩
    · exact .inr ⟨o, es, ep, xs, by rw [upd_ne n]; exact e1, r1, r2, r3, r4, r5, r6, q.off h0⟩
  | ins c fs =>
    obtain ⟨dx, vs, e1, q⟩ := h
    exact ⟨dx, vs, by rw [upd_ne n]; exact e1, q.off h0⟩
theorem HR.off {A : AH} (h : HR K P w μ H A) (n : Dx ∉ μ) (h0 : Plain H Dx) : HR K P w μ (upd H Dx u) A :=
  ⟨h.len, h.nd, fun i o a h1 h2 => OR.off h0 (h.obj i o a h1 h2) fun z => n (z ▸ List.mem_of_getElem? h2)⟩
end
/-! ### targets of blocks -/
section
variable {X : Cx} {es : List Expr} {pos : Pos} {k : Nat}
/-- the names take the values, exactly -/
def tNm (is : List Nat) : TGs := fun vs σ H Q => vs.length = is.length ∧ Q (setAll σ is vs) H
def tBt (K : PySem.W.Frag) (P : Program) (w : World) : Tgt → TG
  | .one i => gName i
  | .tup is => fun v σ H Q => ∃ μ A d ds, HR K P w μ H A ∧ DV K μ H d v ∧ itemsOf A d = some ds ∧ ds.length = is.length ∧ ∀ vs, DVs K μ H ds vs → Q (setAll σ is vs) H
/-- names with their slots -/
inductive NamesAt (X : Cx) : List Expr → List Nat → Prop where
  | nil : NamesAt X [] []
  | cons {x : Str} {p : Pos} {i : Nat} {es : List Expr} {is : List Nat} (hi : X.N[i]? = some x) (hx : Loc X.env.scope x) (hf : X.fn x = true ∨ X.env.scope.names.lookup x = some .local) : NamesAt X es is → NamesAt X (.Name x p :: es) (i :: is)
theorem pgs_names (hN : X.N.Nodup) {is : List Nat} (h : NamesAt X es is) : PGs X es (tNm is) := by
  induction h with
  | nil =>
    refine ⟨fun pins s σ H vs us Q I r q => pgs_nil.run pins s σ H vs us Q I r ?_⟩
    obtain ⟨h1, h2⟩ := q
    have e : vs = [] := List.length_eq_zero_iff.mp h1
    subst e
    exact ⟨rfl, h2⟩
  | @cons x p i es is hi hx hf h ih =>
    refine ⟨fun pins s σ H vs us Q I r q => (pgs_cons (pg_name hN hi hx hf) ih rfl).run pins s σ H vs us Q I r ?_⟩
    obtain ⟨h1, h2⟩ := q
    cases vs with
    | nil => cases h1
    | cons v vs => exact ⟨v, vs, rfl, Nat.succ.inj h1, h2⟩
theorem names_each {env : Env} {is : List Nat} (h : NamesAt X es is) : (assignEach es env).length = is.length ∧ (assignEach es env).findIdx? (·.1) = none := by
  induction h with
  | nil => exact ⟨rfl, rfl⟩
  | @cons x p i es is hi hx hf h ih =>
    refine ⟨congrArg Nat.succ ih.1, ?_⟩
    show ((false, assign (.Name x p) env) :: assignEach es env).findIdx? (·.1) = none
    rw [List.findIdx?_cons, ih.2]
    rfl
theorem pg_bt_tup (hc : X.calm = true) (hN : X.N.Nodup) {is : List Nat} (h : NamesAt X es is) : PG X (.Tuple es k pos) (tBt X.K X.prog X.w (.tup is)) := by
  obtain ⟨hn, hst⟩ := names_each (env := X.env) h
  have hg := pgs_names hN h
  refine ⟨fun pins s σ H v u Q I r hw => ?_⟩
  obtain ⟨μ, A, d, ds, hr, dv, e, hl, q⟩ := hw
  have lst : ∀ {a : Addr} {vs : List V}, v = .ref a → SqL X.K H a vs → DVs X.K μ H ds vs → wpAny (model X.prog X.w) X.A (assign (.Tuple es k pos) X.env u) (fun _ s' => ∃ σ' H', Inv X pins σ' H' s' ∧ Q σ' H') X.xe s := by
    intro a vs e1 hq hd
    subst e1
    cases r
    obtain ⟨its, rv, pl, hz⟩ := I.list hq
    have hsz : its.toArray.size = (assignEach es X.env).length := by rw [List.size_toArray, ← rv.length, hd.length, hl, hn]
    rw [PyProof.Rows.assign_Tuple]
    refine wpAny_bind (wpAny_standAt ?_)
    unfold unpack
    rw [← hsz, hst]
    refine wpAny_bind (wpAny_holding (PySem.W.kun_itemsOf (I.ok.hd hc) pl.isList fun h' hx => ?_))
    have I1 : Inv X pins σ H { s with heap := h' } := I.kept (t' := s.toks) fun b o e => hx b o (Nat.ne_of_lt (Heap.lt_size e)) e
    exact hg.run pins _ σ H vs _ Q I1 (by simpa using rv) ⟨hd.length.trans hl, q vs hd⟩
  unfold itemsOf at e
  split at e
  · cases e
    obtain ⟨a, vs, rfl, t, hd⟩ := dv
    cases r
    obtain ⟨its, rv, ht, hz⟩ := I.tuple t.sq
    refine assign_Tuple_tuple (I.ok.hd hc) ht (by rw [List.size_toArray, ← rv.length, hd.length, hl, hn]) hst fun h' hx => ?_
    have I1 : Inv X pins σ H { s with heap := h' } := I.kept (t' := s.toks) fun b o e => hx b o (Nat.ne_of_lt (Heap.lt_size e)) e
    exact hg.run pins _ σ H vs _ Q I1 (by simpa using rv) ⟨hd.length.trans hl, q vs hd⟩
  · cases e
    obtain ⟨a, vs, rfl, t, hd⟩ := dv
    exact lst rfl t.sq hd
  · split at e
    · rename_i e1
      cases e
      obtain ⟨a, vs, rfl, m, hq, hd⟩ := HRlist hr dv e1
      exact lst rfl (.of hq) hd
    · cases e
  · cases e
theorem tBt_of {K : PySem.W.Frag} {P : Program} {w : World} {μ : List Addr} {H : Hp} {A : AH} {d : D} {v : V} {ρ ρ' : Fr} {σ : L2.St} {tg : Tgt} {vs : List Nat} {Q : L2.St → Hp → Prop} (hr : HR K P w μ H A) (dv : DV K μ H d v) (f : FR K μ H ρ σ) (e : bindT A d ρ tg = some ρ') (hv : ∀ i ∈ tg.ix, i ∈ vs)
    (q : ∀ σ2, FR K μ H ρ' σ2 → L2.wipe σ2 vs = L2.wipe σ vs → Q σ2 H) : tBt K P w tg v σ H Q := by
  cases tg with
  | one i =>
    cases e
    exact q _ (FR.putAll (is := [i]) (vs := [v]) f ⟨v, [], rfl, dv, rfl⟩) (wipe_setAll (is := [i]) (xs := [v]) hv)
  | tup is =>
    unfold bindT at e
    cases e1 : itemsOf A d with
    | none => simp only [e1] at e; cases e
    | some ds =>
      simp only [e1] at e
      split at e
      · rename_i hl
        cases e
        exact ⟨μ, A, d, ds, hr, dv, e1, hl, fun vs' dvs => q _ (FR.putAll f dvs) (wipe_setAll hv)⟩
      · cases e
end
/-! ### the comprehension -/
section
variable {X : Cx} {W : WX} {elt tg iter : Expr} {ifs : List Expr} {scope : Scope} {own : List (Str × Nat)} {pos : Pos} {ms : Fr → M Src} {g : Tgt} {tt : TM} {te : EM}
/-- a block's part, wherever the block stands -/
def InBlk (X : Cx) (scope : Scope) (P : Cx → Prop) : Prop := ∀ (s : Shared) (H : Hp) (C : Addr) (cl : List (Str × Addr)) (fp : List Addr), P (X.blk s H scope (compEnvC scope cl C X.env) fp)
theorem limR_ok {α : Type} {f : Nat → R α} {a : α} {A : AH} (h : limR f = .ok a A) : ∃ n, f n = .ok a A := by
  unfold limR at h
  split at h
  · exact ⟨_, h⟩
  · cases h
theorem lc_of {σ : L2.St} {H : Hp} {Q : VK} (hg : ∀ i ∈ g.ix, i ∈ own.map (·.2)) (h : tE X.K X.prog X.w W (eLc ms g tt te (own.map (·.2))) σ H Q) :
    tLc (tI X.K X.prog X.w W ms) (tBt X.K X.prog X.w g) (tT X.K X.prog X.w W0 tt) (tE X.K X.prog X.w W0 te) (own.map (·.2)) σ H Q := by
  obtain ⟨μ, A, ρ, hr, fr, p⟩ := h
  refine ⟨μ, A, ρ, hr, fr, p.bnd.imp fun μ0 H0 s A0 l0 r0 q0 J fit Dx hD => ?_⟩
  have fr0 := fr.le l0
  cases el : limR fun n => compN s g tt te (wipeF ρ (own.map (·.2))) n 0 [] A0 with
  | ex c fs A' => simp only [el] at q0; exact q0.elim
  | no => simp only [el] at q0; exact q0.elim
  | ok xs A' =>
    simp only [el] at q0
    obtain ⟨n, hn⟩ := limR_ok el
    refine ⟨fun i m H => ∃ μ A acc zs, Le μ0 H0 μ H ∧ HR X.K X.prog X.w μ H A ∧ Dx ∉ μ ∧ H Dx = some (.lst zs) ∧ DVs X.K μ H acc zs ∧ compN s g tt te (wipeF ρ (own.map (·.2))) m i acc A = .ok xs A', ⟨n, μ0, A0, [], [], Le.add hD, r0.add hD, r0.fresh hD, upd_same, rfl, hn⟩, ?_⟩
    rintro i m H ⟨μ, A, acc, zs, l, hr, nD, hz, dz, e⟩
    cases m with
    | zero => cases e
    | succ m =>
      obtain ⟨f1, f2⟩ := fit i μ H A l hr
      unfold compN at e
      cases es : s i A with
      | none => simp only [es] at e; cases e
      | some o =>
        simp only [es] at e
        cases o with
        | none =>
          simp only at e
          cases e
          refine .inl ⟨f1 es, ?_⟩
          have hj := hr.join (ao := .lst xs) (plain_lst hz) nD ⟨zs, hz, DVs.join (plain_lst hz) _ _ dz⟩
          refine q0 (μ ++ [Dx]) H (l.join hD) hj (.ref Dx) ⟨Dx, rfl, ?_⟩
          rw [← hr.len, List.getElem?_append_right (Nat.le_refl _)]
          simp
        | some d =>
          simp only at e
          obtain ⟨go, yld⟩ := f2 d es
          refine .inr ⟨go, fun H => ∃ μ A acc zs, Le μ0 H0 μ H ∧ HR X.K X.prog X.w μ H A ∧ Dx ∉ μ ∧ H Dx = some (.lst zs) ∧ DVs X.K μ H acc zs ∧ compN s g tt te (wipeF ρ (own.map (·.2))) m (i + 1) acc A = .ok xs A', fun H' z => ⟨m, Nat.lt_succ_self m, z⟩, fun x H' y => ?_⟩
          obtain ⟨μ1, l1, r1, dx⟩ := yld x H' y
          have ndx : ∀ {μ2 : List Addr} {H2 : Hp}, Le μ H μ2 H2 → Dx ∉ μ2 ∧ H2 Dx = some (.lst zs) := fun l2 => ⟨l2.out Dx _ hz nD, l2.keep Dx _ hz nD fun _ z => nomatch z⟩
          cases eb : bindT A d (wipeF ρ (own.map (·.2))) g with
          | none => simp only [eb] at e; cases e
          | some ρ1 =>
            simp only [eb] at e
            refine tBt_of r1 dx (FR.wiped (fr0.le (l.trans l1)) _) eb hg fun σ2 fr2 hw => ⟨hw.trans (wipe_idem _ _), ?_⟩
            have dz1 : DVs X.K μ1 H' acc zs := dz.le l1
            refine ⟨μ1, A, ρ1, r1, fr2, ?_⟩
            cases et : tt ρ1 A with
            | ex c fs A2 => simp only [et] at e; cases e
            | no => simp only [et] at e; cases e
            | ok b A1 =>
              simp only [et] at e
              refine fun μ2 H2 l2 r2 => ?_
              show if b = true then _ else _
              cases b with
              | false =>
                simp only at e
                obtain ⟨nD2, hz2⟩ := ndx (l1.trans l2)
                exact ⟨μ2, A1, acc, zs, (l.trans l1).trans l2, r2, nD2, hz2, dz1.le l2, e⟩
              | true =>
                simp only at e
                refine ⟨μ2, A1, ρ1, r2, fr2.le l2, ?_⟩
                cases ee : te ρ1 A1 with
                | ex c fs A2 => simp only [ee] at e; cases e
                | no => simp only [ee] at e; cases e
                | ok yd A2 =>
                  simp only [ee] at e
                  split at e
                  · rename_i hlen
                    refine fun μ3 H3 l3 r3 yv dy => ?_
                    obtain ⟨nD3, hz3⟩ := ndx ((l1.trans l2).trans l3)
                    have dz3 : DVs X.K μ3 H3 acc zs := (dz1.le l2).le l3
                    refine ⟨zs, hz3, by rw [dz3.length]; exact hlen, μ3, A2, acc ++ [yd], zs ++ [yv], ?_, ?_, nD3, upd_same, ?_, e⟩
                    · have ll := ((l.trans l1).trans l2).trans l3
                      have ne : ∀ {b : Addr} {o : HO}, H0 b = some o → b ≠ Dx := fun hb z => by
                        rw [z, hD] at hb
                        cases hb
                      exact ⟨ll.pre, fun b o hb nb t => by rw [upd_ne (ne hb)]; exact ll.keep b o hb nb t, fun b ps hb nb => by
                        obtain ⟨qs, z⟩ := ll.tab b ps hb nb
                        exact ⟨qs, by rw [upd_ne (ne hb)]; exact z⟩, ll.out⟩
                    · exact r3.off nD3 (plain_lst hz3)
                    · exact DVs.app (DVs.off (plain_lst hz3) _ _ dz3) (DVs.cons (ds := []) (vs := []) (DV.off (plain_lst hz3) _ _ dy) rfl)
                  · cases e
end
end Pi

/-! Pi16: comprehensions as expressions and behind a name; dict comprehensions. -/
namespace Pi
open PyProof.Rows PySem L2 PySem.Spec

section
variable {X : Cx} {W : WX} {elt tg iter kx vx : Expr} {ifs : List Expr} {scope : Scope} {own : List (Str × Nat)} {pos spos py : Pos} {ms : Fr → M Src} {g : Tgt} {tt : TM} {te tk tv : EM}
abbrev DTs (X : Cx) (W : WX) (ifs : List Expr) (tt : TM) : Prop := PTs X ifs (tT X.K X.prog X.w W tt)
theorem dts_nil : DTs X W [] tYesM := ⟨fun pins s σ H Q I h => pts_nil.run pins s σ H Q I (by
  obtain ⟨μ, A, ρ, hr, fr, p⟩ := h
  exact p μ H (Le.refl _ _) hr)⟩
theorem dts_one {c : Expr} (h : DT X W c tt) : DTs X W [c] tt := ⟨fun pins s σ H Q I hw => (pts_one h).run pins s σ H Q I hw⟩
theorem de_lc (hc : X.calm = true) (hN : X.N.Nodup) (hi : DI X W tg iter ms) (ok : BlkOk X.N X.env.scope scope own) (hv : ∀ i ∈ g.ix, i ∈ own.map (·.2))
    (hg : InBlk X scope fun Y => PG Y tg (tBt X.K X.prog X.w g)) (ht : InBlk X scope fun Y => DTs Y W0 ifs tt) (he : InBlk X scope fun Y => DE Y W0 elt te) (hs : ∀ x, foldedSetIterable iter X.env x = pure x) :
    DE X W (.ListComp elt [⟨tg, iter, ifs, 0⟩] scope pos) (eLc ms g tt te (own.map (·.2))) :=
  PE.of (pe_lc (tt := tT X.K X.prog X.w W0 tt) (te := tE X.K X.prog X.w W0 te) hc hN hi ok hg ht he hs) fun σ H Q h => lc_of hv h
theorem gName_post {i : Nat} {m : EM} {E : Ends} {σ : L2.St} {H : Hp} (h : tS X.K X.prog X.w W (sAsg m (gNam i)) E σ H) : tE X.K X.prog X.w W m σ H fun v H' => E.nx (σ.set i (some v)) H' := by
  obtain ⟨μ, A, ρ, hr, fr, p⟩ := h
  exact ⟨μ, A, ρ, hr, fr, (inE_post p fr).imp fun μ' H' d A' l r q v dv => q μ' H' _ (Le.refl _ _) r ((fr.le l).set dv)⟩
theorem ds_setLc {i : Nat} {y : Str} (hy : X.N[i]? = some y) (hyl : X.env.scope.names.lookup y = some .local) (hsw : swapsWith (.ListComp elt [⟨tg, iter, ifs, 0⟩] scope pos) (some (.Name y py)) spos.line X.env = pure true)
    (hc : X.calm = true) (hN : X.N.Nodup) (hi : DI X W tg iter ms) (ok : BlkOk X.N X.env.scope scope own) (hv : ∀ i ∈ g.ix, i ∈ own.map (·.2))
    (hg : InBlk X scope fun Y => PG Y tg (tBt X.K X.prog X.w g)) (ht : InBlk X scope fun Y => DTs Y W0 ifs tt) (he : InBlk X scope fun Y => DE Y W0 elt te) (hs : ∀ x, foldedSetIterable iter X.env x = pure x) :
    DS X W (.Assign [.Name y py] (.ListComp elt [⟨tg, iter, ifs, 0⟩] scope pos) spos) (sAsg (eLc ms g tt te (own.map (·.2))) (gNam i)) :=
  PS.of (ps_setLc (tt := tT X.K X.prog X.w W0 tt) (te := tE X.K X.prog X.w W0 te) hc hN hy hyl hsw hi ok hg ht he hs) fun E σ H h => lc_of (Q := fun v H' => E.nx (σ.set i (some v)) H') hv (gName_post h)
/-! ### two sources -/
def comp2N (s : Src) (tg : Tgt) (tt : TM) (ms1 : Fr → M Src) (tg1 : Tgt) (tt1 : TM) (te : EM) (vs1 : List Nat) (ρ : Fr) : Nat → Nat → List D → AH → R (List D)
  | 0, _, _, _ => .no
  | n + 1, i, acc, A => match s i A with
    | none => .no
    | some none => .ok acc A
    | some (some d) => (match bindT A d ρ tg with
      | none => .no
      | some ρ1 => (match tt ρ1 A with
        | .ok true A1 => (match ms1 ρ1 A1 with
          | .ok s1 A2 => (match compN s1 tg1 tt1 te (wipeF ρ1 vs1) n 0 acc A2 with
            | .ok acc' A3 => comp2N s tg tt ms1 tg1 tt1 te vs1 ρ n (i + 1) acc' A3
            | _ => .no)
          | _ => .no)
        | .ok false A1 => comp2N s tg tt ms1 tg1 tt1 te vs1 ρ n (i + 1) acc A1
        | _ => .no))
noncomputable def eLc2 (ms : Fr → M Src) (tg : Tgt) (tt : TM) (ms1 : Fr → M Src) (tg1 : Tgt) (tt1 : TM) (te : EM) (vs vs1 : List Nat) : EM := fun ρ => bnd (ms ρ) fun s A => match limR fun n => comp2N s tg tt ms1 tg1 tt1 te vs1 (wipeF ρ vs) n 0 [] A with
  | .ok xs A' => new (.lst xs) A'
  | _ => .no
/-! ### dict comprehensions -/
def dcN (s : Src) (tg : Tgt) (tt : TM) (tk tv : EM) (ρ : Fr) : Nat → Nat → List (D × D) → AH → R (List (D × D))
  | 0, _, _, _ => .no
  | n + 1, i, acc, A => match s i A with
    | none => .no
    | some none => .ok acc A
    | some (some d) => (match bindT A d ρ tg with
      | none => .no
      | some ρ1 => (match tt ρ1 A with
        | .ok true A1 => (match tk ρ1 A1 with
          | .ok k A2 => (match tv ρ1 A2 with
            | .ok v A3 => if (dKey k).isSome = true ∧ acc.length < sizeLine then dcN s tg tt tk tv ρ n (i + 1) (dPut k v acc) A3 else .no
            | _ => .no)
          | _ => .no)
        | .ok false A1 => dcN s tg tt tk tv ρ n (i + 1) acc A1
        | _ => .no))
noncomputable def eDc (ms : Fr → M Src) (tg : Tgt) (tt : TM) (tk tv : EM) (vs : List Nat) : EM := fun ρ => bnd (ms ρ) fun s A => match limR fun n => dcN s tg tt tk tv (wipeF ρ vs) n 0 [] A with
  | .ok xs A' => new (.dic xs) A'
  | _ => .no
theorem dKey_kV {K : PySem.W.Frag} {μ : List Addr} {H : Hp} {d : D} {q : Key} {v : V} (h : dKey d = some q) (hd : DV K μ H d v) : v = kV q := by
  cases d <;> cases h <;> exact hd
theorem dc_of {σ : L2.St} {H : Hp} {Q : VK} (hg : ∀ i ∈ g.ix, i ∈ own.map (·.2)) (h : tE X.K X.prog X.w W (eDc ms g tt tk tv (own.map (·.2))) σ H Q) :
    tDc (tI X.K X.prog X.w W ms) (tBt X.K X.prog X.w g) (tT X.K X.prog X.w W0 tt) (tE X.K X.prog X.w W0 tk) (tE X.K X.prog X.w W0 tv) (own.map (·.2)) σ H Q := by
  obtain ⟨μ, A, ρ, hr, fr, p⟩ := h
  refine ⟨μ, A, ρ, hr, fr, p.bnd.imp fun μ0 H0 s A0 l0 r0 q0 J fit Dx hD => ?_⟩
  have fr0 := fr.le l0
  cases el : limR fun n => dcN s g tt tk tv (wipeF ρ (own.map (·.2))) n 0 [] A0 with
  | ex c fs A' => simp only [el] at q0; exact q0.elim
  | no => simp only [el] at q0; exact q0.elim
  | ok xs A' =>
    simp only [el] at q0
    obtain ⟨n, hn⟩ := limR_ok el
    refine ⟨fun i m H => ∃ μ A acc zs, Le μ0 H0 μ H ∧ HR X.K X.prog X.w μ H A ∧ Dx ∉ μ ∧ H Dx = some (.dK zs) ∧ KDs X.K μ H acc zs ∧ dcN s g tt tk tv (wipeF ρ (own.map (·.2))) m i acc A = .ok xs A', ⟨n, μ0, A0, [], [], Le.add hD, r0.add hD, r0.fresh hD, upd_same, rfl, hn⟩, ?_⟩
    rintro i m H ⟨μ, A, acc, zs, l, hr, nD, hz, dz, e⟩
    cases m with
    | zero => cases e
    | succ m =>
      obtain ⟨f1, f2⟩ := fit i μ H A l hr
      unfold dcN at e
      cases es : s i A with
      | none => simp only [es] at e; cases e
      | some o =>
        simp only [es] at e
        cases o with
        | none =>
          simp only at e
          cases e
          refine .inl ⟨f1 es, ?_⟩
          have hj := hr.join (ao := .dic xs) (plain_dk hz) nD (.inl ⟨zs, hz, dz.join (plain_dk hz)⟩)
          refine q0 (μ ++ [Dx]) H (l.join hD) hj (.ref Dx) ⟨Dx, rfl, ?_⟩
          rw [← hr.len, List.getElem?_append_right (Nat.le_refl _)]
          simp
        | some d =>
          simp only at e
          obtain ⟨go, yld⟩ := f2 d es
          refine .inr ⟨go, fun H => ∃ μ A acc zs, Le μ0 H0 μ H ∧ HR X.K X.prog X.w μ H A ∧ Dx ∉ μ ∧ H Dx = some (.dK zs) ∧ KDs X.K μ H acc zs ∧ dcN s g tt tk tv (wipeF ρ (own.map (·.2))) m (i + 1) acc A = .ok xs A', fun H' z => ⟨m, Nat.lt_succ_self m, z⟩, fun x H' y => ?_⟩
          obtain ⟨μ1, l1, r1, dx⟩ := yld x H' y
          have ndx : ∀ {μ2 : List Addr} {H2 : Hp}, Le μ H μ2 H2 → Dx ∉ μ2 ∧ H2 Dx = some (.dK zs) := fun l2 => ⟨l2.out Dx _ hz nD, l2.keep Dx _ hz nD fun _ z => nomatch z⟩
          cases eb : bindT A d (wipeF ρ (own.map (·.2))) g with
          | none => simp only [eb] at e; cases e
          | some ρ1 =>
            simp only [eb] at e
            refine tBt_of r1 dx (FR.wiped (fr0.le (l.trans l1)) _) eb hg fun σ2 fr2 hw => ⟨hw.trans (wipe_idem _ _), ?_⟩
            have dz1 : KDs X.K μ1 H' acc zs := dz.le l1
            refine ⟨μ1, A, ρ1, r1, fr2, ?_⟩
            cases et : tt ρ1 A with
            | ex c fs A2 => simp only [et] at e; cases e
            | no => simp only [et] at e; cases e
            | ok b A1 =>
              simp only [et] at e
              refine fun μ2 H2 l2 r2 => ?_
              show if b = true then _ else _
              cases b with
              | false =>
                simp only at e
                obtain ⟨nD2, hz2⟩ := ndx (l1.trans l2)
                exact ⟨μ2, A1, acc, zs, (l.trans l1).trans l2, r2, nD2, hz2, dz1.le l2, e⟩
              | true =>
                simp only at e
                refine ⟨μ2, A1, ρ1, r2, fr2.le l2, ?_⟩
                cases ek : tk ρ1 A1 with
                | ex c fs A2 => simp only [ek] at e; cases e
                | no => simp only [ek] at e; cases e
                | ok kd A2 =>
                  simp only [ek] at e
                  refine fun μ3 H3 l3 r3 kv dk => ⟨μ3, A2, ρ1, r3, (fr2.le l2).le l3, ?_⟩
                  cases ee : tv ρ1 A2 with
                  | ex c fs A3 => simp only [ee] at e; cases e
                  | no => simp only [ee] at e; cases e
                  | ok yd A3 =>
                    simp only [ee] at e
                    split at e
                    · rename_i hq
                      obtain ⟨hk, hlen⟩ := hq
                      obtain ⟨q, hk⟩ := Option.isSome_iff_exists.mp hk
                      refine fun μ4 H4 l4 r4 yv dy => ?_
                      have l14 := ((l1.trans l2).trans l3).trans l4
                      obtain ⟨nD3, hz3⟩ := ndx l14
                      have dz3 : KDs X.K μ4 H4 acc zs := ((dz1.le l2).le l3).le l4
                      refine ⟨zs, q, dKey_kV hk dk, hz3, by rw [dz3.length]; exact hlen, μ4, A3, dPut kd yd acc, putK zs q yv, ?_, ?_, nD3, upd_same, ?_, e⟩
                      · have ll := l.trans l14
                        have ne : ∀ {b : Addr} {o : HO}, H0 b = some o → b ≠ Dx := fun hb z => by
                          rw [z, hD] at hb
                          cases hb
                        exact ⟨ll.pre, fun b o hb nb t => by rw [upd_ne (ne hb)]; exact ll.keep b o hb nb t, fun b ps hb nb => by
                          obtain ⟨qs, z⟩ := ll.tab b ps hb nb
                          exact ⟨qs, by rw [upd_ne (ne hb)]; exact z⟩, ll.out⟩
                      · exact r4.off nD3 (plain_dk hz3)
                      · exact (dz3.off (plain_dk hz3)).put hk (DV.off (plain_dk hz3) _ _ dy)
                    · cases e

theorem de_dc (hc : X.calm = true) (hN : X.N.Nodup) (hi : DI X W tg iter ms) (ok : BlkOk X.N X.env.scope scope own) (hv : ∀ i ∈ g.ix, i ∈ own.map (·.2))
    (hg : InBlk X scope fun Y => PG Y tg (tBt X.K X.prog X.w g)) (ht : InBlk X scope fun Y => DTs Y W0 ifs tt) (hk : InBlk X scope fun Y => DE Y W0 kx tk) (he : InBlk X scope fun Y => DE Y W0 vx tv) (hs : ∀ x, foldedSetIterable iter X.env x = pure x) :
    DE X W (.DictComp kx vx [⟨tg, iter, ifs, 0⟩] scope pos) (eDc ms g tt tk tv (own.map (·.2))) :=
  PE.of (pe_dc (tt := tT X.K X.prog X.w W0 tt) (tk := tE X.K X.prog X.w W0 tk) (tv := tE X.K X.prog X.w W0 tv) hc hN hi ok hg ht hk he hs) fun σ H Q h => dc_of hv h
end
end Pi

/-! Pi17: own exceptions: their __init__, raise. -/
namespace Pi
open PyProof.Rows PySem L2 PySem.Spec

/-! ### __init__ of an own exception: self.f = p, .. -/
def slV (σ : L2.St) (i : Nat) : V := match σ[i]? with
  | some (some v) => v
  | _ => .non
def rvF (σ : L2.St) : List (Str × Nat) → List (Str × V) → List (Str × V)
  | [], gs => gs
  | (f, i) :: r, gs => rvF σ r ((f, slV σ i) :: gs)
/-- the fields, the last one first; i is a parameter's place, from 1 -/
def rvD (ds : List D) : List (Str × Nat) → List (Str × D) → List (Str × D)
  | [], gs => gs
  | (f, i) :: r, gs => rvD ds r ((f, ds.getD (i - 1) .non) :: gs)
def tIn (K : PySem.W.Frag) (fs : List (Str × Nat)) : TS := fun E σ H => ∃ a C, σ[0]? = some (some (.ref a)) ∧ OexC K C ∧ (∀ p ∈ fs, PySem.W.findIn K (.ref C) p.1 = some none ∧ ∃ v, σ[p.2]? = some (some v)) ∧
  ((H a = some (exo a C none) ∧ fs ≠ [] ∧ fs.length ≤ 900 ∧ ∀ H2 dx, H dx = none → dx ≠ a → H2 a = some (exo a C (some dx)) → H2 dx = some (exd dx (rvF σ fs [])) → (∀ b, b ≠ a → b ≠ dx → H2 b = H b) → E.nx σ H2) ∨
   ∃ dx gs, H a = some (exo a C (some dx)) ∧ H dx = some (exd dx gs) ∧ dx ≠ a ∧ gs.length + fs.length ≤ 900 ∧ ∀ H2, H2 dx = some (exd dx (rvF σ fs gs)) → (∀ b, b ≠ dx → H2 b = H b) → E.nx σ H2)
inductive InitBody (X : Cx) : List Stmt → List (Str × Nat) → Prop where
  | nil : InitBody X [] []
  | cons {x sf f : Str} {i : Nat} {p1 p2 p3 pos : Pos} {sts : List Stmt} {fs : List (Str × Nat)} (h0 : X.N[0]? = some sf) (v0 : Vis X.env.scope sf) (d0 : (sf == ("__debug__" : Str)) = false) (c0 : (sf == ("__classdict__" : Str)) = false)
      (hi : X.N[i]? = some x) (hv : Vis X.env.scope x) (hd : (x == ("__debug__" : Str)) = false) (hc : (x == ("__classdict__" : Str)) = false) (hs : swapsWith (.Name x p3) (some (.Attribute (.Name sf p1) f p2)) pos.line X.env = pure false)
      (r : InitBody X sts fs) : InitBody X (.Assign [.Attribute (.Name sf p1) f p2] (.Name x p3) pos :: sts) ((f, i) :: fs)
theorem init_walk {X : Cx} {sts : List Stmt} {fs : List (Str × Nat)} (h : InitBody X sts fs) : PSs X sts (tIn X.K fs) := by
  induction h with
  | nil =>
    refine PSs.of pss_nil fun E σ H h => ?_
    obtain ⟨a, C, h0, T, hf, ⟨_, n, _⟩ | ⟨dx, gs, e1, e2, ne, hl, q⟩⟩ := h
    · exact absurd rfl n
    · exact q H e2 fun b _ => rfl
  | @cons x sf f i p1 p2 p3 pos sts fs h0 v0 d0 c0 hi hv hd hc hs r ih =>
    refine PSs.of (pss_cons (ps_ost (pe_var h0 v0 d0 c0) (pe_var hi hv hd hc) hs) ih) fun E σ H h => ?_
    obtain ⟨a, C, e0, T, hf, q⟩ := h
    obtain ⟨hno, v, ev⟩ := hf _ List.mem_cons_self
    have es : slV σ i = v := by unfold slV; rw [ev]
    have hf2 : ∀ p ∈ fs, PySem.W.findIn X.K (.ref C) p.1 = some none ∧ ∃ v, σ[p.2]? = some (some v) := fun p hp => hf p (List.mem_cons_of_mem _ hp)
    refine ⟨v, ev, .ref a, e0, a, C, rfl, T, hno, ?_⟩
    rcases q with ⟨e1, _, hl, q⟩ | ⟨dx, gs, e1, e2, ne, hl, q⟩
    · refine .inl ⟨e1, fun dx n ne => ⟨a, C, e0, T, hf2, .inr ⟨dx, [(f, v)], upd_same, by rw [upd_ne ne]; exact upd_same, ne, by rw [List.length_cons] at hl; simp; omega, fun H2 z1 z2 => ?_⟩⟩⟩
      refine q H2 dx n ne (by rw [z2 a (Ne.symm ne)]; exact upd_same) ?_ fun b b1 b2 => by rw [z2 b b2, upd_ne b1, upd_ne b2]
      rw [z1]
      unfold rvF
      rw [es]
      cases fs <;> rfl
    · refine .inr ⟨dx, gs, e1, e2, by rw [List.length_cons] at hl; omega, a, C, e0, T, hf2, .inr ⟨dx, (f, v) :: gs, by rw [upd_ne (Ne.symm ne)]; exact e1, upd_same, ne, by rw [List.length_cons] at hl ⊢; omega, fun H2 z1 z2 => ?_⟩⟩
      refine q H2 ?_ fun b b1 => by rw [z2 b b1, upd_ne b1]
      rw [z1]
      unfold rvF
      rw [es]
      cases fs <;> rfl
/-- what __init__ of the class at C does -/
def spI (K : PySem.W.Frag) (C : Addr) (np : Nat) (fs : List (Str × Nat)) : Sp := fun vs H Q E => vs.length = np + 1 ∧ ∃ a, vs[0]? = some (.ref a) ∧ OexC K C ∧ fs ≠ [] ∧ fs.length ≤ 900 ∧ (∀ p ∈ fs, PySem.W.findIn K (.ref C) p.1 = some none ∧ p.2 ≤ np) ∧ H a = some (exo a C none) ∧
  ∀ H2 dx, H dx = none → dx ≠ a → H2 a = some (exo a C (some dx)) → H2 dx = some (exd dx (rvF (vs.map some) fs [])) → (∀ b, b ≠ a → b ≠ dx → H2 b = H b) → Q .non H2
theorem start_at {N : List Str} {vs : List V} {i : Nat} (h : i < vs.length) : (L2.start N vs)[i]? = (vs.map some)[i]? := by
  unfold L2.start
  rw [List.getElem?_append_left (by simpa using h)]
theorem rvF_start {N : List Str} {vs : List V} : ∀ {fs : List (Str × Nat)} {gs : List (Str × V)}, (∀ p ∈ fs, p.2 < vs.length) → rvF (L2.start N vs) fs gs = rvF (vs.map some) fs gs
  | [], gs, _ => rfl
  | (f, i) :: r, gs, h => by
    unfold rvF
    rw [show slV (L2.start N vs) i = slV (vs.map some) i from by unfold slV; rw [start_at (h _ List.mem_cons_self)]]
    exact rvF_start fun p hp => h p (List.mem_cons_of_mem _ hp)
theorem rvF_fvs {K : PySem.W.Frag} {μ : List Addr} {H : Hp} {a : V} {ds : List D} {vs : List V} (hd : DVs K μ H ds vs) : ∀ {fs : List (Str × Nat)} {gd : List (Str × D)} {gs : List (Str × V)}, (∀ p ∈ fs, 1 ≤ p.2 ∧ p.2 ≤ ds.length) → FVs K μ H gd gs →
    FVs K μ H (rvD ds fs gd) (rvF ((a :: vs).map some) fs gs)
  | [], gd, gs, _, g => g
  | (f, i) :: r, gd, gs, h, g => by
    obtain ⟨h1, h2⟩ := h _ List.mem_cons_self
    refine rvF_fvs (fs := r) (gd := (f, _) :: gd) (gs := (f, _) :: gs) hd (fun p hp => h p (List.mem_cons_of_mem _ hp)) ⟨_, _, rfl, ?_, g⟩
    have h1 : 1 ≤ i := h1
    have h2 : i ≤ ds.length := h2
    obtain ⟨j, rfl⟩ : ∃ j, i = j + 1 := ⟨i - 1, by omega⟩
    have hj : j < ds.length := by omega
    obtain ⟨v, e, dv⟩ := hd.get (List.getElem?_eq_getElem hj)
    have e1 : slV ((a :: vs).map some) (j + 1) = v := by
      unfold slV
      rw [List.getElem?_map, List.getElem?_cons_succ, e]
      rfl
    rw [e1]
    have e2 : ds.getD (j + 1 - 1) D.non = ds[j] := by
      rw [Nat.add_sub_cancel, List.getD_eq_getElem?_getD, List.getElem?_eq_getElem hj]
      rfl
    rw [e2]
    exact dv
/-- the class x is made from np values, its fields being fs -/
def ExcOk (X : Cx) (x : Str) (np : Nat) (fs : List (Str × Nat)) : Prop := OexC X.K (He.ga X.K x) ∧ fs ≠ [] ∧ fs.length ≤ 900 ∧ np ≤ 900 ∧ (∀ p ∈ fs, PySem.W.findIn X.K (.ref (He.ga X.K x)) p.1 = some none ∧ 1 ≤ p.2 ∧ p.2 ≤ np) ∧ X.mg x = some (.ref (He.ga X.K x)) ∧
  ∃ (k : Nat) (fI : Addr) (fd : FuncData) (ps : List Str), PySem.W.findIn X.K (.ref (He.ga X.K x)) "__init__" = some (some (.ref fI)) ∧ PySem.W.typeIn X.K (.ref fI) = some (.type "function") ∧
    FnOk X.prog X.w X.K X.mg X.base (L2.CX X.prog X.w) k fI fd ps (spI X.K (He.ga X.K x) np fs) ∧ Room (k + 1) X.A ∧ Binds X.K fd ps []
/-- C(..) raised -/
def exF (c : Str) (np : Nat) (fs : List (Str × Nat)) (ds : List D) : M D := fun A => if ds.length = np then .ex c (rvD ds fs []) A else .no
def sRaise (c : Str) (np : Nat) (fs : List (Str × Nat)) (t : AM) : SM := inE t fun ds ρ A => if ds.length = np then .ex c (rvD ds fs []) ρ A else .no
section
variable {X : Cx} {W : WX} {e : Expr} {es : List Expr} {t : AM} {pos p : Pos} {x : Str} {np : Nat} {fs : List (Str × Nat)}
theorem passF {X : Cx} : Passes (L2.CX X.prog X.w) X (fun _ _ _ => False) := fun _ _ _ _ _ _ _ h => by
  obtain ⟨_, _, _, _, _, _, _, _, _, _, _, _, z⟩ := h
  exact z.elim
theorem ds_raise (hc : X.calm = true) (tk : Takes X W) (T : ExcOk X x np fs) (hg : Gl X x) (ha : DA X W (e :: es) t) (hdb : (x == ("__debug__" : Str)) = false) (he : starEach (e :: es) X.env = (false, eval e X.env) :: starEach es X.env) (hpl : (backTo pos (starEach es X.env)).any (·.1) = false) {rp : Pos} :
    DS X W (.Raise (some (.Call (.Name x p) (e :: es) [] pos)) none rp) (sRaise x np fs t) := by
  obtain ⟨O, hne, hl9, hn9, hfs, hm, k, fI, fd, ps, iC, tI, F, hr, hb⟩ := T
  refine PS.of (ps_raise hc tk (pmk_oex (dvs := []) O iC tI F hr hb .nil passF hg hm ha hdb he hpl)) fun E σ H h => ?_
  obtain ⟨μ, A, ρ, hr, fr, p⟩ := h
  refine ⟨μ, A, ρ, hr, fr, (inE_post p fr).imp fun μ' H' ds A' l r q vs dvs => ?_⟩
  split at q
  · rename_i hl
    refine ⟨by rw [dvs.length, hl]; omega, fun a na => ⟨by simp [dvs.length, hl], a, rfl, O, hne, hl9, fun p hp => ⟨(hfs p hp).1, (hfs p hp).2.2⟩, upd_same, fun H2 dx n ne z1 z2 z3 => ⟨rfl, dx, _, z1, z2, ?_, ?_⟩⟩⟩
    · rw [upd_ne ne] at n
      exact n
    · rw [upd_ne ne] at n
      have e0 : upd (del H2 a) dx (.xd (rvF ((V.ref a :: (vs ++ [])).map some) fs [])) = upd H' dx (.xd (rvF ((V.ref a :: (vs ++ [])).map some) fs [])) := by
        funext b
        by_cases b1 : b = dx
        · rw [b1, upd_same, upd_same]
        · rw [upd_ne b1, upd_ne b1]
          by_cases b2 : b = a
          · rw [b2, del_same, na]
          · rw [del_ne b2, z3 b b2 b1, upd_ne b2]
      rw [e0]
      refine q μ' _ σ _ _ (Le.add n) (r.add n) ((fr.le l).le (Le.add n)) ⟨rfl, .inr ⟨dx, _, rfl, r.fresh n, upd_same, ?_⟩⟩
      rw [List.append_nil]
      exact rvF_fvs (dvs.le (Le.add n)) (fun p hp => ⟨(hfs p hp).2.1, by rw [hl]; exact (hfs p hp).2.2⟩) rfl
  · exact q.elim
end
end Pi

/-! Pi18: try with clauses of both forms. -/
namespace Pi
open PyProof.Rows PySem L2 PySem.Spec

abbrev ClT := Value × Option Nat × TS
def endsA : Option Nat → Ends → Ends
  | none, D => D
  | some i, D => ⟨fun σ' H' => D.nx (σ'.set i none) H', D.rt, fun σ' H' => D.bk (σ'.set i none) H', fun σ' H' => D.ct (σ'.set i none) H'⟩
def entA : Option Nat → Addr → L2.St → L2.St
  | none, _, σ => σ
  | some i, a, σ => σ.set i (some (.ref a))
/-- what the clauses ask, one after another -/
def wM (K : PySem.W.Frag) (W : WX) (D : Ends) : List ClT → WX
  | [] => W
  | (c, i, ts) :: r => fun cls d σ H => ∃ b, PySem.W.exmOne K cls c = some b ∧ (b = true → ∃ C, cls = .ref C ∧ ∀ a, H a = none → ts (endsA i D) (entA i a σ) (upd H a (exg a C d))) ∧ (b = false → wM K W D r cls d σ H)
def AsOk (X : Cx) : Option Str → Option Nat → Prop
  | none, none => True
  | some n, some i => X.N[i]? = some n ∧ X.env.kindOf n = some .local
  | _, _ => False
inductive Cls2 (X : Cx) : List ExceptHandler → List ClT → Prop
  | nil : Cls2 X [] []
  | cons {x : Str} {c : Value} {n : Option Str} {i : Option Nat} {ts : TS} {b₀ : Stmt} {su : List Stmt} {np hp : Pos} {hds : List ExceptHandler} {l : List ClT} (hc : Names X x c) (ha : AsOk X n i)
      (hs : ∀ (a : Addr) (pn : List (Addr × Obj)), PSs (X.suite a pn) (b₀ :: su) ts) (r : Cls2 X hds l) :
      Cls2 X (.ExceptHandler (some (.Name x np)) n (b₀ :: su) hp :: hds) ((c, i, ts) :: l)
section
variable {X : Cx} {pins : List (Addr × Obj)} {σ : L2.St} {H : Hp} {s sI : Shared} {a C : Addr} {oe : Obj} {vs : Array Value} {d : Option Addr}
/-- the exception that has landed is told -/
theorem Inv.track (I : Inv X pins σ H s) (J : Inv X pins σ H sI) (n0 : sI.heap.get? a = none) (ha : s.heap.get? a = some oe) (hz : Zc (.ref C) d oe) (hd : oe.data = .fields vs) (na : H a = none) : Inv X pins σ (upd H a (exg a C d)) s := by
  have ne : ∀ {b : Addr} {o : Obj}, sI.heap.get? b = some o → b ≠ a := fun e z => by
    rw [z, n0] at e
    cases e
  have neH : ∀ {b : Addr} {o : HO}, H b = some o → b ≠ a := fun e z => by
    rw [z, na] at e
    cases e
  refine ⟨I.ok, I.os, I.bare, ⟨I.base.keep, I.base.slot, fun b o e n hb => ?_, I.base.there, fun b xs e => ?_, fun b o u e => ?_, fun b ps e => ?_⟩, I.loc, I.cell, ?_, fun x c e => ?_, fun p hp => ?_, fun b u e => ?_, I.len⟩
  · by_cases z : b = a
    · obtain ⟨o', q⟩ := J.base.there b o e hb
      exact absurd z (ne q)
    · rw [upd_ne z]
      exact I.base.free b o e n hb
  · have q := I.base.tups b xs e
    rw [upd_ne (neH q)]
    exact q
  · have q := I.base.frzs b o u e
    rw [upd_ne (neH q)]
    exact q
  · obtain ⟨m, q⟩ := I.base.tbls b ps e
    exact ⟨m, by rw [upd_ne (neH q)]; exact q⟩
  · obtain ⟨m, ⟨o, es, ep, ho, r⟩, hl⟩ := J.loc
    rw [upd_ne (ne ho)]
    exact I.free
  · obtain ⟨v, o, ho, r⟩ := J.cell x c e
    rw [upd_ne (ne ho)]
    exact I.freeC x c e
  · obtain ⟨e, n, q⟩ := I.pin p hp
    obtain ⟨e', _⟩ := J.pin p hp
    exact ⟨e, by rw [upd_ne (ne e')]; exact n, q⟩
  · by_cases z : b = a
    · subst z
      rw [upd_same] at e
      cases e
      exact ⟨⟨oe, vs, ha, hz, hd⟩, ⟨oe, ha⟩, fun h1 h2 ⟨o, v, q1, q2⟩ k => ⟨o, v, k o q1, q2⟩⟩
    · rw [upd_ne z] at e
      exact (I.hok b u e).stay (fun c v _ q => q) (fun c q => by rw [upd_ne (neH q)]; exact q) fun c xs q => by rw [upd_ne (neH q)]; exact q
theorem Inv.inSuite (I : Inv X pins σ H s) (a : Addr) : Inv (X.suite a (X.pn ++ pins)) [] σ H s :=
  ⟨I.ok.suite _ _, I.os, I.bare, I.base, I.loc, I.cell, I.free, I.freeC, fun p hp => I.pin p (by rw [List.append_nil] at hp; exact hp), I.hok, I.len⟩
theorem Inv.ofSuite {pn' : List (Addr × Obj)} (I : Inv (X.suite a (X.pn ++ pins)) pn' σ H s) (ok : X.Ok) : Inv X pins σ H s :=
  ⟨ok, I.os, I.bare, I.base, I.loc, I.cell, I.free, I.freeC, fun p hp => I.pin p (List.mem_append_left _ hp), I.hok, I.len⟩
end
section
variable {X : Cx} {body : List Stmt} {h₀ : ExceptHandler} {hds : List ExceptHandler} {l : List ClT} {pos : Pos} {tb : WX → TS} {W : WX}
theorem ps_tryM (hN : X.N.Nodup) (hs : X.stack = X.env :: X.outer) (hf : X.env.frame = some X.env.locals) (tk : Takes X W)
    (hb : ∀ (W1 : WX) (pn : List (Addr × Obj)) (xe : Value → Shared → Prop), Takes (X.tr pn xe) W1 → PassesOwn (model X.prog X.w) X.A X.env xe → PSs (X.tr pn xe) body (tb W1))
    (hh : Cls2 X (h₀ :: hds) l) : PS X (.Try body (h₀ :: hds) [] [] pos) (fun D σ H => tb (wM X.K W D l) D σ H) := by
  refine ⟨fun pins s σ H D I h => ?_⟩
  have ok := I.ok
  have fr0 : X.A.frames = some (X.env :: X.outer) := ok.frames.trans (by rw [hs])
  refine wpAny_Try_except ?_
  refine wpAny_mono ((hb (wM X.K W D l) (X.pn ++ pins) (fun e s₁ => wpAny (model X.prog X.w) X.A (noteFrame e X.env) (fun _ s₂ => wpAny (model X.prog X.w) X.A (setFlight e none)
    (fun _ s₃ => wpAny (model X.prog X.w) X.A (handleBy e X.env (h₀ :: hds)) (SP X pins D) X.xe s₃) X.xe s₂) X.xe s₁) (fun u t xx => ?_) PassesOwn.looking).run [] s σ H D (I.toTry _) h) (fun f t ht => ?_) (fun _ _ z => z)
  · obtain ⟨a, B, sI, ps2, σ1, H1, cls, d, rfl, J1, nb, up, sky, na, eo, eg, w⟩ := xx
    have J : Inv X pins σ1 H1 sI := J1.ofTry ok
    have sk : Sky B (X.env :: X.outer) a (Zc cls d) X.env.locals t.heap := by rw [← hs]; exact sky
    show wpAny (model X.prog X.w) X.A (noteFrame (.ref a) X.env) _ _ _
    refine Sky.land Zc.steady fr0 hf sk fun h3 fl up3 => ?_
    have J3 : Inv X pins σ1 H1 { t with heap := h3 } := J.landed nb fl.1 (up.trans up3) eo eg
    obtain ⟨oe, ve, ge, ze, de⟩ := fl.there
    have nofr : a ∉ frs (X.env :: X.outer) := fun hm => by
      obtain ⟨_, o', e', hnf⟩ := (fl.2.2.1).mem hm
      rw [ge] at e'
      cases e'
      exact hnf _ de
    have nL : a ≠ X.env.locals := fun z => nofr (List.mem_filterMap.mpr ⟨X.env, List.mem_cons_self, by rw [hf, z]⟩)
    have nF : a ∉ X.fs := fun hm => by
      obtain ⟨e, he, q⟩ := List.mem_filterMap.mp hm
      exact nofr (List.mem_filterMap.mpr ⟨e, List.mem_cons_of_mem _ he, q⟩)
    have S3 := J3.suite ge de na nL nF
    have n0 : sI.heap.get? a = none := by
      cases e : sI.heap.get? a with
      | none => rfl
      | some o =>
        have z := nb a o e (by rw [hs]; exact nofr)
        rw [fl.2.1] at z
        cases z
    have all : ∀ {hs' : List ExceptHandler} {l' : List ClT}, Cls2 X hs' l' → wM X.K W D l' cls d σ1 H1 →
        wpAny (model X.prog X.w) X.A (handleBy (.ref a) X.env hs') (SP X pins D) X.xe { t with heap := h3 } := by
      intro hs' l' hk
      induction hk with
      | nil =>
        intro w
        refine wpAny_handleBy_nil ?_
        obtain ⟨k1, k2, k3, o5, v5, T, oT, ts', g5, z5, d5, h1, hr⟩ := id fl
        unfold PySem.passOn
        refine wpAny_bind (wpAny_field g5 d5 h1 ?_)
        rw [if_neg (show ¬ ((Value.ref T == Value.none) = true) from by simp)]
        have fin : wpAny (model X.prog X.w) X.A (setFlight (.ref a) X.env.frame)
            (fun _ s4 => wpAny (model X.prog X.w) X.A (throw (.ref a) : Sem Flow) (SP X pins D) X.xe s4) X.xe { t with heap := h3 } := by
          rw [hf]
          exact HandSPX.setFlight_upZ fl fun h4 hh4 up4 => wpAny_throw (tk _ _
            ⟨a, B, sI, pins, σ1, H1, cls, d, rfl, J, nb, (up.trans up3).trans up4, .inr (.inr (by rw [hs]; exact hh4)), na, eo, eg, w⟩)
        first
          | exact wpAny_bind (wpAny_pure (wpAny_bind fin))
          | exact wpAny_bind fin
      | @cons x c n i ts b₀ su np hp hd2 l2 hc ha hsu r ih =>
        intro w
        obtain ⟨b, hb1, yes, no⟩ := w
        refine wpAny_handleBy_cons (codeAny_handlers_test ?_) (by intro q; cases q)
        have LT : PySem.W.Looks (model X.prog X.w) h3 (typeOf (.ref a)) cls :=
          fun A Q E s k q => wpAny_typeOf_ref (k _ _ ge) (by rw [ze.1]; exact q)
        have LM := PySem.W.exm_one (M := model X.prog X.w) (J3.kIn) LT hb1
        have tst : ∀ {Q : Value → Shared → Prop} {E : Value → Shared → Prop}, Q c { t with heap := h3 } →
            wpAny (model X.prog X.w) (X.A.mark (some (.ref a))) (eval (.Name x np) X.env) Q E { t with heap := h3 } := fun {Q E} q => by
          obtain ⟨hg, hdbg, hm | ⟨hm, hv, hnn⟩⟩ := hc
          · exact ld_glob (X := X.suite a ((a, oe) :: (X.pn ++ pins))) S3 hg hm q hdbg
          · exact ld_blt (X := X.suite a ((a, oe) :: (X.pn ++ pins))) S3 hg hm hv q hnn hdbg
        refine tst (LM.here ?_)
        cases b with
        | false =>
          show wpAny _ X.A (handleBy (.ref a) X.env hd2) _ _ _
          exact ih (no rfl)
        | true =>
          obtain ⟨C, rfl, w4⟩ := yes rfl
          have w4 := w4 a na
          cases n with
          | none =>
            cases i with
            | some i => exact ha.elim
            | none =>
              refine codeAny_handlers_suite (HandSPX.lands_againZ fl fun h4 fl4 up4 => ?_)
              have J4 : Inv X pins σ1 H1 { t with heap := h4 } := J.landed nb fl4.1 ((up.trans up3).trans up4) eo eg
              obtain ⟨o4, v4, g4, z4, d4⟩ := fl4.there
              refine wpAny_mono ((hsu a (X.pn ++ pins)).run [] _ _ _ _ (Inv.inSuite (Inv.track J4 J n0 g4 z4 d4 na) a) w4) (fun f s6 hsp => ?_) (fun _ _ z => False.elim z)
              match f, hsp with
              | .next, ⟨σ6, H6, S6, q6⟩ => exact ⟨_, _, Inv.ofSuite S6 ok, q6⟩
              | .brk, ⟨σ6, H6, S6, q6⟩ => exact ⟨_, _, Inv.ofSuite S6 ok, q6⟩
              | .cont, ⟨σ6, H6, S6, q6⟩ => exact ⟨_, _, Inv.ofSuite S6 ok, q6⟩
              | .ret u, ⟨v6, σ6, H6, S6, r6, q6⟩ => exact ⟨_, _, _, Inv.ofSuite S6 ok, r6, q6⟩
          | some n =>
            cases i with
            | none => exact ha.elim
            | some i =>
              obtain ⟨hi, hln⟩ := ha
              refine codeAny_handlers_suite_as (HandSPX.lands_againZ fl fun h4 fl4 up4 => ?_)
              have J4 : Inv X pins σ1 H1 { t with heap := h4 } := J.landed nb fl4.1 ((up.trans up3).trans up4) eo eg
              obtain ⟨o4, v4, g4, z4, d4⟩ := fl4.there
              refine store_ok (X := X.suite a (X.pn ++ pins)) (v := .ref a) (Inv.inSuite (Inv.track J4 J n0 g4 z4 d4 na) a) hN hi (.inl hln) rfl (fun s5 S5 => ?_) (.inr hln)
              refine wpAny_mono ((hsu a (X.pn ++ pins)).run [] s5 _ _ _ S5 w4) (fun f s6 hsp => ?_) (fun _ _ z => False.elim z)
              have done : ∀ {σ6 : L2.St} {H6 : Hp} {Q : Shared → Prop}, Inv (X.suite a (X.pn ++ pins)) [] σ6 H6 s6 → (∀ s7, Inv X pins (σ6.set i none) H6 s7 → Q s7) →
                  wpAny (model X.prog X.w) X.A (do bindName X.env n .none; unbindBehindTheSuite X.env n hp) (fun _ s7 => Q s7) X.xe s6 := fun S6 hq => gone_ok (Inv.ofSuite S6 ok) hN hi hln hq
              match f, hsp with
              | .next, ⟨σ6, H6, S6, q6⟩ => exact done S6 fun s7 J7 => ⟨_, _, J7, q6⟩
              | .brk, ⟨σ6, H6, S6, q6⟩ => exact done S6 fun s7 J7 => ⟨_, _, J7, q6⟩
              | .cont, ⟨σ6, H6, S6, q6⟩ => exact done S6 fun s7 J7 => ⟨_, _, J7, q6⟩
              | .ret u, ⟨v6, σ6, H6, S6, r6, q6⟩ => exact done S6 fun s7 J7 => ⟨_, _, _, J7, r6, q6⟩
    exact all hh w
  · match f, ht with
    | .next, ⟨σ1, H1, J1, q⟩ => exact wpAny_execs_nil ⟨σ1, H1, J1.ofTry ok, q⟩
    | .brk, ⟨σ1, H1, J1, q⟩ => exact ⟨σ1, H1, J1.ofTry ok, q⟩
    | .cont, ⟨σ1, H1, J1, q⟩ => exact ⟨σ1, H1, J1.ofTry ok, q⟩
    | .ret u, ⟨v, σ1, H1, J1, r, q⟩ => exact ⟨v, σ1, H1, J1.ofTry ok, r, q⟩
end
end Pi

/-! Pi19: exceptions as values; attributes; isinstance; try by values. -/
namespace Pi
open PyProof.Rows PySem L2 PySem.Spec

/-! ### what an exception is as a value -/
def exvOf (c : Str) (fs : List (Str × D)) : D := .exv c (fs.map (·.1)) (fs.map (·.2))
def zLook (f : Str) : List Str → List D → Option D
  | g :: gs, d :: ds => if f = g then some d else zLook f gs ds
  | _, _ => none
section
variable {K : PySem.W.Frag} {P : Program} {w : World} {μ : List Addr} {H : Hp}
theorem FVs.zip : ∀ {fs : List (Str × D)} {vs : List (Str × V)}, FVs K μ H fs vs → ∃ us, vs = (fs.map (·.1)).zip us ∧ DVs K μ H (fs.map (·.2)) us
  | [], vs, h => ⟨[], h, rfl⟩
  | (f, d) :: t, vs, h => by
    obtain ⟨v, r, rfl, h1, h2⟩ := h
    obtain ⟨us, e, q⟩ := FVs.zip h2
    exact ⟨v :: us, by rw [e]; rfl, v, us, rfl, h1, q⟩
theorem zLook_dv {f : Str} {d : D} : ∀ {fs : List Str} {ds : List D} {us : List V}, DVs K μ H ds us → zLook f fs ds = some d → ∃ v, (fs.zip us).lookup f = some v ∧ DV K μ H d v
  | [], _, _, _, e => by cases e
  | g :: gs, [], _, _, e => by cases e
  | g :: gs, x :: xs, us, h, e => by
    obtain ⟨v, r, rfl, h1, h2⟩ := h
    unfold zLook at e
    rw [List.zip_cons_cons, List.lookup_cons]
    by_cases q : f = g
    · rw [if_pos q] at e
      cases e
      rw [q]
      exact ⟨v, by simp, h1⟩
    · rw [if_neg q] at e
      rw [beq_eq_false_iff_ne.mpr q]
      exact zLook_dv h2 e
/-- a told exception is the value -/
theorem exv_dv {c : Str} {fs : List (Str × D)} {C a : Addr} {d : Option Addr} (h : ExO K μ H c fs (.ref C) d) (na : H a = none) (hn : a ∉ μ) : DV K μ (upd H a (exg a C d)) (exvOf c fs) (.ref a) := by
  obtain ⟨e, q⟩ := h
  cases e
  rcases q with ⟨rfl, rfl⟩ | ⟨dx, vs, rfl, nd, hd, hf⟩
  · exact ⟨a, [], rfl, rfl, ⟨hn, .inl ⟨rfl, upd_same⟩⟩, rfl⟩
  · obtain ⟨us, e, q⟩ := hf.zip
    refine ⟨a, us, rfl, by simp, ⟨hn, .inr ⟨dx, upd_same, nd, ?_⟩⟩, q.le (Le.add na)⟩
    rw [upd_ne (fun z => by rw [z, na] at hd; cases hd), hd, e]
end

/-! ### attributes of objects and of exceptions -/
structure AttX (K : PySem.W.Frag) (T : Att) : Prop where
  cls : ∀ c f, T c f = true → XfC K (He.ga K c)
  no : ∀ c f, T c f = true → PySem.W.findIn K (.ref (He.ga K c)) f = some none
def fldX (T TE : Att) (f : Str) (d : D) : M D := match d with
  | .exv c fs ds => if TE c f = true then opt (zLook f fs ds) else noM
  | d => fldD T f d
def eFldX (T TE : Att) (f : Str) (m : EM) : EM := fun ρ => bnd (m ρ) (fldX T TE f)
section
variable {X : Cx} {W : WX} {e o : Expr} {m mo : EM} {pos pos' : Pos} {T TE : Att} {f : Str}
theorem ex_get {pins : List (Addr × Obj)} {σ : L2.St} {H : Hp} {s : Shared} {a C : Addr} {d : Option Addr} (I : Inv X pins σ H s) (e : H a = some (exg a C d)) : ∃ oe vs, s.heap.get? a = some oe ∧ Zc (.ref C) d oe ∧ oe.data = .fields vs := by
  have x : ObjOk X.prog X.w H s.heap a (.ext fun h => ∃ oe vs, h.get? a = some oe ∧ Zc (.ref C) d oe ∧ oe.data = .fields vs) := I.hok a _ e
  exact x.1
theorem de_fldX (ok : AttOk X.K T) (okE : AttX X.K TE) (he : DE X W e m) (hb : attributeBase e f X.env (eval e X.env) = eval e X.env) : DE X W (.Attribute e f pos) (eFldX T TE f m) := by
  refine ⟨fun pins s σ H Q I h => attr_of hb ?_⟩
  obtain ⟨μ, A, ρ, hr, fr, p⟩ := h
  refine thn (he.run pins s σ H (fun v H1 => ∃ μ A d, HR X.K X.prog X.w μ H1 A ∧ DV X.K μ H1 d v ∧ post X.K X.prog X.w W σ μ H1 (fldX T TE f d A) (vQ X.K Q)) I
    ⟨μ, A, ρ, hr, fr, p.bnd.imp fun μ' H' d A' l r q v dv => ⟨μ', A', d, r, dv, q⟩⟩) fun u s1 ⟨v, H1, I1, rv, μ, A, d, hr, dv, q⟩ => ?_
  have ins : post X.K X.prog X.w W σ μ H1 (fldD T f d A) (vQ X.K Q) → wpAny (model X.prog X.w) X.A (getAttr u f true) (EP X pins σ Q) X.xe s1 := fun q => by
    obtain ⟨n, c, fs, a, dx, vs, rfl, e1, rfl, hm, ha, hf, q⟩ := onIns_post q hr dv
    obtain ⟨hT, q⟩ := ifno q
    obtain ⟨z, e2, q⟩ := opt_post q
    obtain ⟨zv, e3, dz⟩ := hf.lookS e2
    cases rv
    exact getattr_ok I1 ha (ok.cls _ _ hT) (ok.no _ _ hT) e3 fun u' s2 I2 ru => ⟨zv, H1, I2, ru, vok q hr dz⟩
  cases d with
  | exv c fs ds =>
    obtain ⟨hT, q⟩ := ifno (show post X.K X.prog X.w W σ μ H1 ((if TE c f = true then opt (zLook f fs ds) else noM : M D) A) (vQ X.K Q) from q)
    obtain ⟨z, e2, q⟩ := opt_post q
    obtain ⟨p, vs, rfl, hl, t, dvs⟩ := dv
    cases rv
    obtain ⟨zv, e3, dz⟩ := zLook_dv dvs e2
    obtain ⟨np, ⟨rfl, t⟩ | ⟨dx, t, nd, hd⟩⟩ := t
    · cases e2
    · obtain ⟨oe, fv, g, hz, hf⟩ := ex_get I1 t
      have hx : ObjOk X.prog X.w H1 s1.heap dx (.xd (fs.zip vs)) := I1.hok dx _ hd
      obtain ⟨mA, hns, hr2⟩ := hx
      obtain ⟨od, ho, hl2⟩ := lookIn_ns hns
      obtain ⟨u, hu, ru⟩ := RelO.some_of (v := zv) (o := mA f) (by rw [← e3]; exact hr2 f)
      have J : PySem.W.InstAt s1.heap p oe (He.ga X.K c) (some od) := ⟨g, hz.1, by unfold PySem.W.notCls; rw [hf] <;> rfl, by rw [hz.2]; exact ho⟩
      have T1 := okE.cls _ _ hT
      exact HandSPX.exc_get I1.kIn J T1.ga T1.gg T1.exC (PySem.W.findObj_own T1.hdC (okE.no _ _ hT) rfl (by rw [hl2, hu])) (handed_of ru) ⟨zv, H1, I1.tok _, ru, vok q hr dz⟩
  | _ => exact ins q
end

/-! ### isinstance -/
inductive Ty where
  | bt (n : String) | ins (c : Str) | exc (c : Str)
  deriving DecidableEq
def tyD (A : AH) : D → Option Ty
  | .non => some (.bt "NoneType")
  | .bl _ => some (.bt "bool")
  | .int _ => some (.bt "int")
  | .str _ => some (.bt "str")
  | .tup _ => some (.bt "tuple")
  | .frl _ => some (.bt "list")
  | .exv c _ _ => some (.exc c)
  | .ref n => match A[n]? with
    | some (.lst _) => some (.bt "list")
    | some (.dic _) => some (.bt "dict")
    | some (.ins c _) => some (.ins c)
    | none => none
def tyV (K : PySem.W.Frag) : Ty → Value
  | .bt n => .type n
  | .ins c => .ref (He.ga K c)
  | .exc c => .ref (He.ga K c)
/-- the built-in types that are asked for -/
def btNm (x : Str) : Option String := if x = "int" then some "int" else if x = "str" then some "str" else if x = "bool" then some "bool" else if x = "tuple" then some "tuple" else if x = "list" then some "list" else if x = "dict" then some "dict" else if x = "ValueError" then some "ValueError" else none
def clV (K : PySem.W.Frag) (x : Str) : Value := match btNm x with
  | some n => .type n
  | none => .ref (He.ga K x)
def clW (K : PySem.W.Frag) (x : Str) : V := match btNm x with
  | some n => .ty n
  | none => .ref (He.ga K x)
abbrev Sub := Ty → Str → Option Bool
structure InsC (K : PySem.W.Frag) (C : Addr) : Prop where
  cl : Cls K C
  ha : PySem.W.findIn K (.ref C) "__class__" = some (some (.builtin "object.__class__"))
  hn : PySem.W.specialIn K (.builtin "object.__class__") "__get__" = some (some (.builtin "getset_descriptor.__get__"))
  htk : PySem.W.takesIn K (.builtin "object.__class__") = some true
  hm : PySem.W.mroIn K C (.type "object") = some true
def TyOk (K : PySem.W.Frag) : Ty → Prop
  | .bt _ => True
  | .ins c => InsC K (He.ga K c)
  | .exc c => ExcC K (He.ga K c)
def SubOk (K : PySem.W.Frag) (S : Sub) : Prop := ∀ t c b, S t c = some b → PySem.W.kitOne K (tyV K t) (clV K c) = some b ∧ TyOk K t
def isiN (S : Sub) (t : Ty) : List Str → Option Bool
  | [] => some false
  | c :: r => match S t c with
    | some true => some true
    | some false => isiN S t r
    | none => none
def isiD (S : Sub) (cs : List Str) (d : D) : M D := fun A => match tyD A d with
  | some t => (match isiN S t cs with
    | some b => .ok (.bl b) A
    | none => .no)
  | none => .no
def eIsi (S : Sub) (cs : List Str) (m : EM) : EM := fun ρ => bnd (m ρ) (isiD S cs)
theorem isiN_any {K : PySem.W.Frag} {S : Sub} (ok : SubOk K S) {t : Ty} : ∀ {cs : List Str} {b : Bool}, isiN S t cs = some b → PySem.W.kitAny K (tyV K t) (cs.map (clV K)) = some b
  | [], b, h => h
  | c :: r, b, h => by
    unfold isiN at h
    show (match PySem.W.kitOne K (tyV K t) (clV K c) with
      | some true => some true
      | some false => PySem.W.kitAny K (tyV K t) (r.map (clV K))
      | none => none) = some b
    cases e : S t c with
    | none => rw [e] at h; cases h
    | some k =>
      rw [e] at h
      rw [(ok _ _ _ e).1]
      cases k with
      | true => exact h
      | false => exact isiN_any ok h
theorem isiN_ok {K : PySem.W.Frag} {S : Sub} (ok : SubOk K S) {t : Ty} {c : Str} {r : List Str} {b : Bool} (h : isiN S t (c :: r) = some b) : TyOk K t := by
  unfold isiN at h
  cases e : S t c with
  | none => rw [e] at h; cases h
  | some k => exact (ok _ _ _ e).2
section
open PySem.W
/-- an exception's class, asked for -/
theorem exc_class {prog : Program} {w : World} {A : Around} {E : Value → Shared → Prop} {s : Shared} {K : Frag} {x C : Addr} {ox : Obj} {od : Option Obj} {Q : Option Value → Shared → Prop} (T : ExcC K C) (KX : K.In s.heap) (I : InstAt s.heap x ox C od)
    (h : Q (some (.ref C)) { s with toks := s.toks + 1 }) : wpAny (model prog w) A (getAttr? (.ref x) "__class__") Q E s := by
  have hfind : findObj K C od "__class__" = some (.bind (.builtin "getset_descriptor.__get__") (.builtin "object.__class__")) := by
    obtain ⟨cd, hc, _⟩ := any_some T.hd
    unfold findObj
    rw [hc, Option.bind_some, T.ha, Option.bind_some]
    simp [T.hn, T.ht]
  obtain ⟨hp, g, dr, tk, os⟩ := s
  have c0 := I.type (M := model prog w)
  have c1 := looks_findIn (M := model prog w) KX T.hg
  have c2 := looks_findIn (M := model prog w) KX T.hk
  have c3 := looks_find (M := model prog w) KX I hfind
  have cs : Looks (model prog w) hp (isInstance (.ref x) (.type "BaseException")) true := c0.andThen (looks_subIn KX T.hs)
  have n0 : (false && onTheHeap (Value.builtin "BaseException.__getattribute__")) = false := rfl
  have n2 : (Value.builtin "BaseException.__getattribute__" == Value.builtin "object.__getattribute__") = false := by decide +kernel
  have n1 : (onTheHeap (Value.ref C) && Value.builtin "BaseException.__getattribute__" == Value.builtin "object.__getattribute__") = false := by rw [n2]; rfl
  unfold getAttr? getAttrBy? getAttrBy
  refine wpAny_bind (wpAny_mkText (wpAny_bind (wpAny_attempt (wpAny_holding (wpAny_bind (c0.at (wpAny_bind (c1.at ?_))))))))
  show wpAny _ _ (if (onTheHeap (Value.ref C) && Value.builtin "BaseException.__getattribute__" == Value.builtin "object.__getattribute__") = true then _ else _) _ _ _
  rw [n1, if_neg Bool.false_ne_true]
  unfold getAttrByItsOwn hookBefore
  refine wpAny_bind ?_
  rw [if_pos (show onTheHeap (Value.ref C) = true from rfl)]
  refine c2.at ?_
  refine wpAny_bind (wpAny_attempt (wpAny_holding ?_))
  unfold callGetattribute
  rw [n0, if_neg Bool.false_ne_true]
  unfold boundAndCalled
  rw [PySem.F.excAttr_ValueError.ga.bind (.ref x)]
  refine wpAny_bind (wpAny_pure ?_)
  show wpAny _ _ (call (.builtin "BaseException.__getattribute__") [.ref x, .str "__class__" tk]) _ _ _
  refine wpAny_call (codeAny_call_builtin PySem.F.excAttr_ValueError.ga.plain PySem.F.entry_bexc_ga ?_)
  refine @check_slot (model prog w) _ _ ⟨hp, g, dr, tk + 1, os⟩ "BaseException.__getattribute__" "BaseException" "__getattribute__" (.ref x) [.str "__class__" tk] [] _ (by decide +kernel) (by decide +kernel) cs (PySem.F.args_bexc_ga (.ref x) (.str "__class__" tk)) ?_
  unfold Builtin.«object.__getattribute__»
  refine wpAny_bind (wpAny_of_eq (a := ((Value.ref x : Value), [Value.str "__class__" tk])) (by first | rfl | (simp only [slotArgs]; rfl)) ?_)
  refine wpAny_bind (wpAny_pure (wpAny_bind (c0.at (wpAny_bind (c3.at ?_)))))
  show wpAny _ _ (holding [Value.builtin "object.__class__"] (call (.builtin "getset_descriptor.__get__") [.builtin "object.__class__", .ref x, .ref C]) >>= PySem.ret) _ _ _
  refine wpAny_bind (wpAny_holding (wpAny_call (class_get (s := ⟨hp, g, dr, tk + 1, os⟩) (ox := ox) (od := od) KX I T.hm ?_)))
  refine wpAny_pure ?_
  show wpAny _ _ (handedOut (.ref C)) _ _ _
  rw [handedOut_of (v := .ref C) rfl]
  first
    | exact wpAny_pure (wpAny_pure h)
    | exact wpAny_pure h
    | exact wpAny_pure (wpAny_bind (wpAny_pure (wpAny_pure h)))
theorem kitx_ex {K : Frag} {x C : Addr} {ox : Obj} {od : Option Obj} (T : ExcC K C) : KitX K (.ref x) (.ref C) (fun h => InstAt h x ox C od) where
  ty := fun _ _ _ I => I.type
  it := fun _ _ KX _ => by
    obtain ⟨cd, hc, _⟩ := any_some T.hd
    unfold clsIn at hc
    split at hc
    · rename_i c1 d1 k1 l1 ho
      intro A1 Q1 E1 s1 k q
      unfold isType loadHead
      exact wpAny_bind (wpAny_loadPart (k _ _ (KX _ _ ho)) (wpAny_pure q))
    · cases hc
  ne := fun h tp dd its n sl KX htp => by
    obtain ⟨cd, hc, _⟩ := any_some T.hd
    refine Bool.eq_false_iff.mpr fun q => ?_
    have e : C = tp := Value.ref.inj (beq_iff_eq.mp q)
    subst e
    unfold clsIn at hc
    split at hc
    · rename_i c1 d1 k1 l1 ho
      cases (KX _ _ ho).symm.trans htp
    · cases hc
  ca := fun KX I k => exc_class T KX I k
end
section
variable {X : Cx} {W : WX} {e o : Expr} {m mo : EM} {pos p cp : Pos} {S : Sub}
theorem kit_dv {pins : List (Addr × Obj)} {σ : L2.St} {H : Hp} {s : Shared} {μ : List Addr} {A : AH} {d : D} {x : V} {u : Value} {t : Ty} (I : Inv X pins σ H s) (hr : HR X.K X.prog X.w μ H A) (dv : DV X.K μ H d x) (rx : RelV x u) (e : tyD A d = some t) (ok : TyOk X.K t) :
    ∃ P : Heap → Prop, PySem.W.KitX X.K u (tyV X.K t) P ∧ P s.heap ∧ u ≠ .builtin "__main__.__loader__#opaque" := by
  cases d with
  | non => cases e; obtain rfl := dv; exact kit_of I rx (.base .non)
  | bl b => cases e; obtain rfl := dv; exact kit_of I rx (.base (.bl b))
  | int i => cases e; obtain rfl := dv; exact kit_of I rx (.base (.int i))
  | str y => cases e; obtain rfl := dv; exact kit_of I rx (.base (.str y))
  | tup xs =>
    cases e
    obtain ⟨q, vs, rfl, t, _⟩ := dv
    rcases t with ⟨_, o, _, t⟩ | ⟨o, its, n, h1, h2, _⟩
    · exact kit_of I rx (.fTuple t)
    · exact kit_of I rx (.kTuple h1 h2)
  | frl xs =>
    cases e
    obtain ⟨q, vs, rfl, t, _⟩ := dv
    rcases t with ⟨_, o, t⟩ | ⟨o, its, n, h1, h2, _⟩
    · exact kit_of I rx (.base (.frz t))
    · exact kit_of I rx (.kList h1 h2)
  | exv c fs ds =>
    cases e
    obtain ⟨q, vs, rfl, _, ⟨_, h⟩, _⟩ := dv
    cases rx
    have ex : ∃ d, H q = some (exg q (He.ga X.K c) d) ∧ (∀ dx, d = some dx → ∃ od, s.heap.get? dx = some od) := by
      rcases h with ⟨_, h⟩ | ⟨dx, h, _, hd⟩
      · exact ⟨none, h, fun dx z => nomatch z⟩
      · have hx : ObjOk X.prog X.w H s.heap dx (.xd (fs.zip vs)) := I.hok dx _ hd
        obtain ⟨mA, hns, _⟩ := hx
        obtain ⟨od, ho, _⟩ := lookIn_ns hns
        exact ⟨some dx, h, fun dy z => by cases z; exact ⟨od, ho⟩⟩
    obtain ⟨d, h, hd⟩ := ex
    obtain ⟨oe, fv, g, hz, hf⟩ := ex_get I h
    have nc : PySem.W.notCls oe := by unfold PySem.W.notCls; rw [hf] <;> rfl
    cases d with
    | none => exact ⟨_, kitx_ex (od := none) ok, ⟨g, hz.1, nc, by rw [hz.2]; trivial⟩, fun z => nomatch z⟩
    | some dx =>
      obtain ⟨od, ho⟩ := hd dx rfl
      exact ⟨_, kitx_ex (od := some od) ok, ⟨g, hz.1, nc, by rw [hz.2]; exact ho⟩, fun z => nomatch z⟩
  | ref n =>
    unfold tyD at e
    cases eo : A[n]? with
    | none => simp only [eo] at e; cases e
    | some ob =>
      obtain ⟨a, rfl, hm⟩ := dv
      have q := hr.obj n _ a eo hm
      cases ob with
      | lst xs =>
        simp only [eo] at e
        cases e
        obtain ⟨vs, q, _⟩ := q
        exact kit_of I rx (.base (.lst q))
      | dic kvs =>
        simp only [eo] at e
        cases e
        rcases q with ⟨ps, q, _⟩ | ⟨o, es, ep, xs, q, r1, r2, _⟩
        · exact kit_of I rx (.base (.dK q))
        · cases rx
          exact ⟨_, PySem.W.kitx_dict, ⟨o, raw_get I q, r2.1⟩, fun z => nomatch z⟩
      | ins c fs =>
        simp only [eo] at e
        cases e
        obtain ⟨dx, vs, q, _⟩ := q
        exact kit_of I rx (.base (.ins q ok.cl ok.ha ok.hn ok.htk ok.hm))
/-- a class's name -/
def ClNm (X : Cx) (x : Str) : Prop := Gl X x ∧ (x == ("__debug__" : Str)) = false ∧ x ≠ "__name__" ∧ ((∃ n, btNm x = some n ∧ X.mg x = none ∧ bootBuiltins x = some (.type n)) ∨ (btNm x = none ∧ X.mg x = some (.ref (He.ga X.K x))))
theorem clNm_pe {x : Str} (h : ClNm X x) : PE X (.Name x cp) (tC (clW X.K x)) ∧ ClsV (clW X.K x) (clV X.K x) := by
  obtain ⟨hg, hd, hn, ⟨n, e, hm, hv⟩ | ⟨e, hm⟩⟩ := h
  · unfold clW clV
    rw [e]
    exact ⟨pe_bltn hg hm hv rfl hn hd, .ty n⟩
  · unfold clW clV
    rw [e]
    exact ⟨pe_glob hg hm rfl hd, .own _⟩
theorem de_isi (ok : SubOk X.K S) (he : DE X W e m) {x : Str} (hx : ClNm X x) (hg : Gl X "isinstance") (hm : X.mg "isinstance" = none)
    (h1 : starEach [e, .Name x cp] X.env = (false, eval e X.env) :: starEach [.Name x cp] X.env) : DE X W (.Call (.Name "isinstance" p) [e, .Name x cp] [] pos) (eIsi S [x] m) := by
  obtain ⟨pc, cv⟩ := clNm_pe (cp := cp) hx
  have hc : CallR X (.builtin "isinstance") (fun xs H Q => ∃ μ A d v, xs = [v, clW X.K x] ∧ HR X.K X.prog X.w μ H A ∧ DV X.K μ H d v ∧ ∃ b A', isiD S [x] d A = .ok (.bl b) A' ∧ Q (.bl b) H) := by
    intro pins s σ H xs us Q I r h
    obtain ⟨μ, A, d, v, rfl, hr, dv, b, A', eq, q⟩ := h
    obtain ⟨u1, u2, rfl, r1, r2⟩ := vals2 r
    have e2 := cv.eq r2
    subst e2
    unfold isiD at eq
    cases et : tyD A d with
    | none => simp only [et] at eq; cases eq
    | some t =>
      simp only [et] at eq
      cases en : isiN S t [x] with
      | none => simp only [en] at eq; cases eq
      | some k =>
        simp only [en] at eq
        cases eq
        obtain ⟨Pp, Z, pp, hxx⟩ := kit_dv I hr dv r1 et (isiN_ok ok en)
        have ek : PySem.W.kitOne X.K (tyV X.K t) (clV X.K x) = some b := by
          unfold isiN at en
          cases es : S t x with
          | none => rw [es] at en; cases en
          | some y =>
            rw [es] at en
            rw [(ok _ _ _ es).1]
            cases y <;> exact en
        exact PySem.W.kia_one Z I.kIn pp ek hxx fun tk => ⟨.bl b, H, I.tok tk, rfl, q⟩
  refine PE.of (pe_callB hc hg hm PyProof.Rows.Boot.«isinstance» (pa_cons he (pa_cons pc pa_nil rfl) h1) (by decide) (by decide) h1 rfl) fun σ H Q h => ?_
  obtain ⟨μ, A, ρ, hr, fr, q⟩ := h
  refine ⟨μ, A, ρ, hr, fr, q.bnd.imp fun μ' H' d A' l r q v dv => ?_⟩
  have q : post X.K X.prog X.w W σ μ' H' (isiD S [x] d A') (vQ X.K Q) := q
  show ∃ μ A d v1, [v, clW X.K x] = [v1, clW X.K x] ∧ _
  refine ⟨μ', A', d, v, rfl, r, dv, ?_⟩
  unfold isiD at q ⊢
  cases et : tyD A' d with
  | none => simp only [et] at q; exact q.elim
  | some t =>
    simp only [et] at q ⊢
    cases en : isiN S t [x] with
    | none => simp only [en] at q; exact q.elim
    | some b =>
      simp only [en] at q ⊢
      exact ⟨b, _, rfl, q μ' H' (Le.refl _ _) r _ rfl⟩
end
end Pi

/-! Pi20: try by values; exceptions made as values; isinstance with a tuple of types. -/
namespace Pi
open PyProof.Rows PySem L2 PySem.Spec

/-! ### try -/
structure Hd where
  c : Str
  i : Option Nat
  m : SM
def entN : Option Nat → Fr → Fr
  | none, ρ => ρ
  | some i, ρ => ρ.set i none
def entD : Option Nat → D → Fr → Fr
  | none, _, ρ => ρ
  | some i, d, ρ => ρ.set i (some d)
def leave (i : Option Nat) : RS → RS
  | .nx ρ A => .nx (entN i ρ) A
  | .rt d A => .rt d A
  | .bk ρ A => .bk (entN i ρ) A
  | .ct ρ A => .ct (entN i ρ) A
  | .ex _ _ _ _ => .no
  | .no => .no
/-- c's exceptions are taken by a clause for h -/
abbrev Exs := Str → Str → Option Bool
def hdGo (T : Exs) : List Hd → Str → List (Str × D) → Fr → AH → RS
  | [], c, fs, ρ, A => .ex c fs ρ A
  | h :: r, c, fs, ρ, A => match T c h.c with
    | some true => leave h.i (h.m (entD h.i (exvOf c fs) ρ) A)
    | some false => hdGo T r c fs ρ A
    | none => .no
def sTry (T : Exs) (b : SM) (hs : List Hd) : SM := fun ρ A => match b ρ A with
  | .ex c fs ρ' A' => hdGo T hs c fs ρ' A'
  | r => r
def ExsOk (K : PySem.W.Frag) (T : Exs) : Prop := ∀ c h b, T c h = some b → PySem.W.exmOne K (.ref (He.ga K c)) (clV K h) = some b
section
variable {K : PySem.W.Frag} {P : Program} {w : World} {μ : List Addr} {H : Hp}
theorem FR.unset {ρ : Fr} {σ : L2.St} (f : FR K μ H ρ σ) (i : Nat) : FR K μ H (ρ.set i none) (σ.set i none) := by
  refine ⟨by rw [List.length_set, List.length_set, f.len], fun j d e => ?_⟩
  by_cases hi : i = j
  · subst hi
    by_cases hl : i < ρ.length
    · rw [List.getElem?_set_self hl] at e
      cases e
    · rw [List.getElem?_eq_none (by rw [List.length_set]; omega)] at e
      cases e
  · rw [List.getElem?_set_ne hi] at e ⊢
    exact f.at_ j d e
theorem leave_post {W : WX} {i : Option Nat} {r : RS} {E : Ends} (h : postS K P w W μ H (leave i r) E) : postS K P w W0 μ H r (endsA i E) := by
  have un : ∀ {μ H ρ σ}, FR K μ H ρ σ → FR K μ H (entN i ρ) (match i with | none => σ | some i => σ.set i none) := fun {μ H ρ σ} f => by
    cases i with
    | none => exact f
    | some i => exact f.unset i
  cases r with
  | nx ρ A =>
    have h : ∀ μ' H' σ', Le μ H μ' H' → HR K P w μ' H' A → FR K μ' H' (entN i ρ) σ' → E.nx σ' H' := h
    intro μ' H' σ' l r f
    cases i with
    | none => exact h μ' H' σ' l r f
    | some i => exact h μ' H' _ l r (f.unset i)
  | rt d A =>
    have h : ∀ μ' H' v, Le μ H μ' H' → HR K P w μ' H' A → DV K μ' H' d v → E.rt v H' := h
    cases i <;> exact h
  | bk ρ A =>
    have h : ∀ μ' H' σ', Le μ H μ' H' → HR K P w μ' H' A → FR K μ' H' (entN i ρ) σ' → E.bk σ' H' := h
    intro μ' H' σ' l r f
    cases i with
    | none => exact h μ' H' σ' l r f
    | some i => exact h μ' H' _ l r (f.unset i)
  | ct ρ A =>
    have h : ∀ μ' H' σ', Le μ H μ' H' → HR K P w μ' H' A → FR K μ' H' (entN i ρ) σ' → E.ct σ' H' := h
    intro μ' H' σ' l r f
    cases i with
    | none => exact h μ' H' σ' l r f
    | some i => exact h μ' H' _ l r (f.unset i)
  | ex c fs ρ A => exact h.elim
  | no => exact h.elim
end
inductive HdD (X : Cx) : List ExceptHandler → List Hd → Prop
  | nil : HdD X [] []
  | cons {x : Str} {n : Option Str} {i : Option Nat} {m : SM} {b₀ : Stmt} {su : List Stmt} {np hp : Pos} {hds : List ExceptHandler} {l : List Hd} (hc : ClNm X x) (ha : AsOk X n i)
      (hs : ∀ (a : Addr) (pn : List (Addr × Obj)), DSs (X.suite a pn) W0 (b₀ :: su) m) (r : HdD X hds l) : HdD X (.ExceptHandler (some (.Name x np)) n (b₀ :: su) hp :: hds) (⟨x, i, m⟩ :: l)
section
variable {X : Cx} {W : WX} {body : List Stmt} {h₀ : ExceptHandler} {hds : List ExceptHandler} {l : List Hd} {pos : Pos} {b : SM} {T : Exs}
theorem clNm_names {x : Str} (h : ClNm X x) : Names X x (clV X.K x) := by
  obtain ⟨hg, hd, hn, ⟨n, e, hm, hv⟩ | ⟨e, hm⟩⟩ := h
  · refine ⟨hg, hd, .inr ⟨hm, ?_, hn⟩⟩
    unfold clV
    rw [e]
    exact hv
  · refine ⟨hg, hd, .inl ?_⟩
    unfold clV
    rw [e]
    exact hm
abbrev clT (X : Cx) (h : Hd) : ClT := (clV X.K h.c, h.i, tS X.K X.prog X.w W0 h.m)
theorem hdD_cls {hs : List ExceptHandler} (h : HdD X hs l) : Cls2 X hs (l.map (clT X)) := by
  induction h with
  | nil => exact .nil
  | cons hc ha hs r ih => exact .cons (clNm_names hc) ha hs ih
theorem go_wM (ok : ExsOk X.K T) {E : Ends} {μ : List Addr} {H : Hp} {A : AH} {ρ : Fr} {c : Str} {fs : List (Str × D)} : ∀ {l : List Hd}, postS X.K X.prog X.w W μ H (hdGo T l c fs ρ A) E →
    ∀ μ' H' σ' cls dd, Le μ H μ' H' → HR X.K X.prog X.w μ' H' A → FR X.K μ' H' ρ σ' → ExO X.K μ' H' c fs cls dd → wM X.K W E (l.map (clT X)) cls dd σ' H'
  | [], h, μ', H', σ', cls, dd, lle, r, f, x => h μ' H' σ' cls dd lle r f x
  | hd :: l, h, μ', H', σ', cls, dd, lle, r, f, x => by
    unfold hdGo at h
    have ec : cls = .ref (He.ga X.K c) := x.1
    cases et : T c hd.c with
    | none => rw [et] at h; exact h.elim
    | some k =>
      rw [et] at h
      refine ⟨k, by rw [ec]; exact ok _ _ _ et, fun hk => ⟨_, ec, fun a na => ?_⟩, fun hk => ?_⟩
      · subst hk
        subst ec
        have l2 : Le μ' H' μ' (upd H' a (exg a (He.ga X.K c) dd)) := Le.add na
        refine ⟨μ', A, entD hd.i (exvOf c fs) ρ, r.add na, ?_, (leave_post h).le (lle.trans l2)⟩
        have dv := exv_dv x na (r.fresh na)
        show FR X.K μ' _ (entD hd.i (exvOf c fs) ρ) (entA hd.i a σ')
        cases hd.i with
        | none => exact f.le l2
        | some i => exact FR.set (f.le l2) dv
      · subst hk
        exact go_wM ok h μ' H' σ' cls dd lle r f x
theorem ds_try (okT : ExsOk X.K T) (hN : X.N.Nodup) (hs : X.stack = X.env :: X.outer) (hf : X.env.frame = some X.env.locals) (tk : Takes X W)
    (hb : ∀ (W1 : WX) (pn : List (Addr × Obj)) (xe : Value → Shared → Prop), Takes (X.tr pn xe) W1 → PassesOwn (model X.prog X.w) X.A X.env xe → DSs (X.tr pn xe) W1 body b)
    (hh : HdD X (h₀ :: hds) l) : DS X W (.Try body (h₀ :: hds) [] [] pos) (sTry T b l) :=
  PS.of (ps_tryM (tb := fun W1 => tS X.K X.prog X.w W1 b) hN hs hf tk hb (hdD_cls hh)) fun E σ H h => by
    obtain ⟨μ, A, ρ, hr, fr, p⟩ := h
    refine ⟨μ, A, ρ, hr, fr, ?_⟩
    unfold sTry at p
    cases e : b ρ A with
    | nx ρ' A' => rw [e] at p; exact p
    | rt d A' => rw [e] at p; exact p
    | bk ρ' A' => rw [e] at p; exact p
    | ct ρ' A' => rw [e] at p; exact p
    | no => rw [e] at p; exact p
    | ex c fs ρ' A' =>
      rw [e] at p
      exact go_wM okT p
/-! ### an exception made as a value -/
theorem pe_ofMk {e : Expr} {t : L2.St → Hp → XK → Prop} (he : PMk X e t) : PE X e (fun σ H Q => t σ H fun cls d H' => ∃ C, cls = .ref C ∧ ∀ a, H' a = none → Q (.ref a) (upd H' a (exg a C d))) := by
  refine ⟨fun pins s σ H Q I h => thn (he pins s σ H _ I h) fun u s' hu => ?_⟩
  obtain ⟨a, oe, vs, sI, H', cls, d, rfl, J, k, n0, ha, hz, hd, h1, na, os, ag, r, C, rfl, q⟩ := hu
  have I2 : Inv X pins σ H' s' := J.landed (B := sI.heap) (fun b o e _ => e) k (fun b o e _ => ⟨o.slots, k b o e⟩) os ag
  exact ⟨.ref a, _, Inv.track I2 J n0 ha hz hd na, rfl, q a na⟩
def eExc (c : Str) (np : Nat) (fs : List (Str × Nat)) (t : AM) : EM := fun ρ => bnd (t ρ) fun ds => if ds.length = np then ret (exvOf c (rvD ds fs [])) else noM
theorem de_mkExc {e : Expr} {es : List Expr} {t : AM} {p : Pos} {x : Str} {np : Nat} {fs : List (Str × Nat)} (T : ExcOk X x np fs) (hg : Gl X x) (ha : DA X W (e :: es) t) (hdb : (x == ("__debug__" : Str)) = false) (he : starEach (e :: es) X.env = (false, eval e X.env) :: starEach es X.env) (hpl : (backTo pos (starEach es X.env)).any (·.1) = false) :
    DE X W (.Call (.Name x p) (e :: es) [] pos) (eExc x np fs t) := by
  obtain ⟨O, hne, hl9, hn9, hfs, hm, k, fI, fd, ps, iC, tI, F, hr, hb⟩ := T
  refine PE.of (pe_ofMk (pmk_oex (dvs := []) O iC tI F hr hb .nil passF hg hm ha hdb he hpl)) fun σ H Q h => ?_
  obtain ⟨μ, A, ρ, hr, fr, p⟩ := h
  refine ⟨μ, A, ρ, hr, fr, p.bnd.imp fun μ' H' ds A' l r q vs dvs => ?_⟩
  obtain ⟨hl, q⟩ := ifno q
  refine ⟨by rw [dvs.length, hl]; omega, fun a na => ⟨by simp [dvs.length, hl], a, rfl, O, hne, hl9, fun p hp => ⟨(hfs p hp).1, (hfs p hp).2.2⟩, upd_same, fun H2 dx n ne z1 z2 z3 => ⟨rfl, dx, _, z1, z2, ?_, _, rfl, fun b nb => ?_⟩⟩⟩
  · rw [upd_ne ne] at n
    exact n
  · rw [upd_ne ne] at n
    have e0 : upd (del H2 a) dx (.xd (rvF ((V.ref a :: (vs ++ [])).map some) fs [])) = upd H' dx (.xd (rvF ((V.ref a :: (vs ++ [])).map some) fs [])) := by
      funext b
      by_cases b1 : b = dx
      · rw [b1, upd_same, upd_same]
      · rw [upd_ne b1, upd_ne b1]
        by_cases b2 : b = a
        · rw [b2, del_same, na]
        · rw [del_ne b2, z3 b b2 b1, upd_ne b2]
    rw [e0] at nb ⊢
    have hx : ExO X.K μ' (upd H' dx (.xd (rvF ((V.ref a :: (vs ++ [])).map some) fs []))) x (rvD ds fs []) (.ref (He.ga X.K x)) (some dx) := by
      refine ⟨rfl, .inr ⟨dx, _, rfl, r.fresh n, upd_same, ?_⟩⟩
      rw [List.append_nil]
      exact rvF_fvs (dvs.le (Le.add n)) (fun p hp => ⟨(hfs p hp).2.1, by rw [hl]; exact (hfs p hp).2.2⟩) rfl
    have r1 : HR X.K X.prog X.w μ' (upd H' dx (.xd (rvF ((V.ref a :: (vs ++ [])).map some) fs []))) A' := r.add n
    exact q μ' _ ((Le.add n).trans (Le.add nb)) (r1.add nb) _ (exv_dv hx nb (r1.fresh nb))
/-- a class without fields -/
def ExcOk0 (X : Cx) (x : Str) : Prop := X.mg x = some (.ref (He.ga X.K x)) ∧ PySem.W.keepIn X.K (.ref (He.ga X.K x)) = true ∧ Raises X (.ref (He.ga X.K x)) ∧ ∃ bmB B newId initId, ExcBaseFacts B newId initId bmB ∧ PySem.W.excIn X.K (He.ga X.K x) bmB newId = true
theorem pmk_own0 {x : Str} {p : Pos} (T : ExcOk0 X x) (hg : Gl X x) (hdb : (x == ("__debug__" : Str)) = false) : PMk X (.Call (.Name x p) [] [] pos) (fun _ H Q => Q (.ref (He.ga X.K x)) none H) := by
  obtain ⟨gC, kC, r, bmB, B, newId, initId, F, q⟩ := T
  intro pins s σ H Q I h
  refine wpAny_Call_Name_kw (ld_glob I hg gC (PySem.W.callWith_K0 I.kIn kC ?_) hdb)
  obtain ⟨bm, N, nm, qn, bs, hdct, sn, sub, ab, col, dd, k0, k1, k2, k3, k5, mN, hC, hN, hni, T⟩ := exc_obj I.kIn q
  exact wpAny_call_exc_subT F T hC hN hni (fun h' e hm => mk_of I hm r h (I.hok.gone hm.new)) (Nat.zero_le _)
theorem de_mkExc0 {x : Str} {p : Pos} (T : ExcOk0 X x) (hg : Gl X x) (hdb : (x == ("__debug__" : Str)) = false) : DE X W (.Call (.Name x p) [] [] pos) (eC (exvOf x [])) :=
  PE.of (pe_ofMk (pmk_own0 T hg hdb)) fun σ H Q h => by
    obtain ⟨μ, A, ρ, hr, fr, p⟩ := h
    exact ⟨_, rfl, fun a na => p μ _ (Le.add na) (hr.add na) _ (exv_dv (fs := []) ⟨rfl, .inl ⟨rfl, rfl⟩⟩ na (hr.fresh na))⟩
end
end Pi

/-! Pi21: dict displays; isinstance with several types. -/
namespace Pi
open PyProof.Rows PySem L2 PySem.Spec

def evP : List (EM × EM) → Fr → M (List (D × D))
  | [], _ => ret []
  | (k, v) :: r, ρ => bnd (k ρ) fun x => bnd (v ρ) fun y => bnd (evP r ρ) fun t => ret ((x, y) :: t)
def mergeD (kvs more : List (D × D)) : List (D × D) := more.foldl (fun acc p => dPut p.1 p.2 acc) kvs
def eDisp (prs : List (EM × EM)) : EM := fun ρ => bnd (evP prs ρ) fun kvs => if kvs.all (fun p => (dKey p.1).isSome) = true ∧ kvs.length ≤ 15 then new (.dic (mergeD [] kvs)) else noM
def eDisp0 : EM := fun _ => new (.dic [])
def PDs (K : PySem.W.Frag) (μ : List Addr) (H : Hp) : List (D × D) → List (V × V) → Prop
  | [], r => r = []
  | (k, d) :: t, r => ∃ u v r', r = (u, v) :: r' ∧ DV K μ H k u ∧ DV K μ H d v ∧ PDs K μ H t r'
section
variable {K : PySem.W.Frag} {P : Program} {w : World} {W : WX} {σ : L2.St} {μ : List Addr} {H : Hp}
theorem pairs_of {ρ : Fr} : ∀ {prs : List (EM × EM)} {μ : List Addr} {H : Hp} {A : AH} {Q : List (V × V) → Hp → Prop}, HR K P w μ H A → FR K μ H ρ σ → post K P w W σ μ H (evP prs ρ A) (fun μ' H' kvs _ => ∀ ps, PDs K μ' H' kvs ps → Q ps H') →
    tPairs (prs.map fun p => (tE K P w W p.1, tE K P w W p.2)) σ H Q
  | [], μ, H, A, Q, hr, fr, p => p μ H (Le.refl _ _) hr [] rfl
  | (k, v) :: r, μ, H, A, Q, hr, fr, p => by
    refine ⟨μ, A, ρ, hr, fr, p.bnd.imp fun μ1 H1 x A1 l1 r1 q1 xv dx => ⟨μ1, A1, ρ, r1, fr.le l1, q1.bnd.imp fun μ2 H2 y A2 l2 r2 q2 yv dy => ?_⟩⟩
    refine pairs_of (A := A2) r2 ((fr.le l1).le l2) (q2.bnd.imp fun μ3 H3 t A3 l3 r3 q3 ps hp => ?_)
    exact q3 μ3 H3 (Le.refl _ _) r3 _ ⟨xv, yv, ps, rfl, (dx.le l2).le l3, dy.le l3, hp⟩
theorem keys_of : ∀ {kvs : List (D × D)} {ps : List (V × V)}, PDs K μ H kvs ps → kvs.all (fun p => (dKey p.1).isSome) = true → ∃ ks : List (Key × V), ps = ks.map (fun kv => (kV kv.1, kv.2)) ∧ KDs K μ H kvs ks
  | [], ps, h, _ => ⟨[], h, rfl⟩
  | (k, d) :: t, ps, h, e => by
    obtain ⟨u, v, r, rfl, h1, h2, h3⟩ := h
    rw [List.all_cons, Bool.and_eq_true] at e
    obtain ⟨q, hq⟩ := Option.isSome_iff_exists.mp e.1
    obtain ⟨ks, e2, h4⟩ := keys_of h3 e.2
    exact ⟨(q, v) :: ks, by rw [e2, dKey_kV hq h1]; rfl, q, v, ks, rfl, hq, h2, h4⟩
theorem KDs.merge : ∀ {more : List (D × D)} {rs : List (Key × V)} {kvs : List (D × D)} {ps : List (Key × V)}, KDs K μ H more rs → KDs K μ H kvs ps → KDs K μ H (mergeD kvs more) (mergeK ps rs)
  | [], rs, kvs, ps, h, g => by
    rw [show rs = [] from h]
    exact g
  | (k, d) :: t, rs, kvs, ps, h, g => by
    obtain ⟨q, v, r, rfl, h0, h1, h2⟩ := h
    exact KDs.merge (more := t) (rs := r) (kvs := dPut k d kvs) (ps := putK ps q v) h2 (g.put h0 h1)
/-- an object that stood aside is written, and joins -/
theorem joined {A : AH} {p : Addr} {u : HO} {ao : AO} (hr : HR K P w μ H A) (pl : Plain H p) (n : p ∉ μ) (pl2 : Plain (upd H p u) p) (q : OR K P w μ (upd H p u) p ao) :
    HR K P w (μ ++ [p]) (upd H p u) (A ++ [ao]) ∧ DV K (μ ++ [p]) (upd H p u) (.ref A.length) (.ref p) :=
  ⟨(hr.off n pl).join pl2 n (OR.join pl2 q), p, rfl, by rw [← hr.len, List.getElem?_append_right (Nat.le_refl _)]; simp⟩
theorem Le.joinU {μ0 : List Addr} {H0 : Hp} {p : Addr} {u : HO} (l : Le μ0 H0 μ H) (n : H0 p = none) : Le μ0 H0 (μ ++ [p]) (upd H p u) := by
  have ne : ∀ {b : Addr} {o : HO}, H0 b = some o → b ≠ p := fun hb z => by
    rw [z, n] at hb
    cases hb
  refine Le.join ⟨l.pre, fun b o hb nb t => by rw [upd_ne (ne hb)]; exact l.keep b o hb nb t, fun b ps hb nb => ?_, l.out⟩ n
  obtain ⟨qs, z⟩ := l.tab b ps hb nb
  exact ⟨qs, by rw [upd_ne (ne hb)]; exact z⟩
end
section
variable {X : Cx} {W : WX} {pos : Pos}
/-- the pairs of a display -/
inductive DPs (X : Cx) (W : WX) (pos : Pos) : List (Option Expr) → List Expr → List (EM × EM) → Prop
  | nil : DPs X W pos [] [] []
  | cons {k v : Expr} {ks : List (Option Expr)} {vs : List Expr} {mk mv : EM} {prs : List (EM × EM)} (hk : DE X W k mk) (hv : DE X W v mv) (r : DPs X W pos ks vs prs) : DPs X W pos (some k :: ks) (v :: vs) ((mk, mv) :: prs)
theorem DPs.pps {ks : List (Option Expr)} {vs : List Expr} {prs : List (EM × EM)} (h : DPs X W pos ks vs prs) : PPs X pos ks vs (prs.map fun p => (tE X.K X.prog X.w W p.1, tE X.K X.prog X.w W p.2)) := by
  induction h with
  | nil => exact pps_nil
  | cons hk hv r ih => exact pps_cons hk hv ih
theorem de_disp {ks : List (Option Expr)} {vs : List Expr} {prs : List (EM × EM)} (h : DPs X W pos ks vs prs) (hall : ks.all (·.isSome) = true) (hl : ks.length = vs.length) (h0 : ks ≠ []) (h15 : ks.length ≤ 15) : DE X W (.Dict ks vs pos) (eDisp prs) :=
  PE.of (pe_disp h.pps hall hl h0 h15) fun σ H Q g p hp => by
    obtain ⟨μ, A, ρ, hr, fr, q⟩ := g
    have l0 : Le μ H μ (upd H p (.dK [])) := Le.add hp
    unfold eDisp bnd at q
    refine pairs_of (hr.add hp) (fr.le l0) ?_
    cases e : evP prs ρ A with
    | no => simp only [e] at q; exact q.elim
    | ex c fs A1 =>
      simp only [e] at q
      exact fun μ' H' cls dd l r x => q μ' H' cls dd (l0.trans l) r x
    | ok kvs A1 =>
      simp only [e] at q
      obtain ⟨hc, q⟩ := ifno q
      intro μ' H' l r ps hps
      obtain ⟨es, e1, hk⟩ := keys_of hps hc.1
      have hz : H' p = some (.dK []) := l.keep p _ upd_same (hr.fresh hp) fun _ z => nomatch z
      have hn : p ∉ μ' := l.out p _ upd_same (hr.fresh hp)
      have hm : KDs X.K μ' (upd H' p (.dK (mergeK [] es))) (mergeD [] kvs) (mergeK [] es) := KDs.merge (hk.off (plain_dk hz)) rfl
      obtain ⟨r2, dv⟩ := joined (u := .dK (mergeK [] es)) (ao := .dic (mergeD [] kvs)) r (plain_dk hz) hn (plain_dk upd_same) (.inl ⟨_, upd_same, hm⟩)
      exact ⟨hz, es, e1, by rw [hk.length]; exact hc.2, q _ _ ((l0.trans l).joinU hp) r2 _ dv⟩
theorem de_disp0 : DE X W (.Dict [] [] pos) eDisp0 := PE.of pe_dnewK fun σ H Q g p hp => by
  obtain ⟨μ, A, ρ, hr, fr, q⟩ := g
  exact new_post q hr hp (.inl ⟨[], upd_same, rfl⟩)
/-- isinstance(e, (T1, T2)), built-in types -/
theorem de_isiT {S : Sub} {e : Expr} {m : EM} {p c1 c2 tp : Pos} {x y : Str} {k : Nat} (ok : SubOk X.K S) (he : DE X W e m) (hx : ClNm X x) (hy : ClNm X y) (hg : Gl X "isinstance") (hm : X.mg "isinstance" = none)
    (h1 : starEach [e, .Tuple [.Name x c1, .Name y c2] k tp] X.env = (false, eval e X.env) :: starEach [.Tuple [.Name x c1, .Name y c2] k tp] X.env) :
    DE X W (.Call (.Name "isinstance" p) [e, .Tuple [.Name x c1, .Name y c2] k tp] [] pos) (eIsi S [x, y] m) := by
  obtain ⟨px, cx⟩ := clNm_pe (cp := c1) hx
  obtain ⟨py, cy⟩ := clNm_pe (cp := c2) hy
  have hc : CallR X (.builtin "isinstance") (fun xs H Q => ∃ μ A d v t, xs = [v, .ref t] ∧ H t = some (.tup [clW X.K x, clW X.K y]) ∧ HR X.K X.prog X.w μ H A ∧ DV X.K μ H d v ∧ ∃ b A', isiD S [x, y] d A = .ok (.bl b) A' ∧ Q (.bl b) H) := by
    intro pins s σ H xs us Q I r h
    obtain ⟨μ, A, d, v, t, rfl, ht, hr, dv, b, A', eq, q⟩ := h
    obtain ⟨u1, u2, rfl, r1, r2⟩ := vals2 r
    obtain rfl : u2 = Value.ref t := r2
    unfold isiD at eq
    cases et : tyD A d with
    | none => simp only [et] at eq; cases eq
    | some ty =>
      simp only [et] at eq
      cases en : isiN S ty [x, y] with
      | none => simp only [en] at eq; cases eq
      | some k =>
        simp only [en] at eq
        cases eq
        obtain ⟨Pp, Z, pp, hxx⟩ := kit_dv I hr dv r1 et (isiN_ok ok en)
        obtain ⟨_, its, rv, o, g1, g2, n, g3⟩ := (show ObjOk X.prog X.w H s.heap t (.tup [clW X.K x, clW X.K y]) from I.hok t _ ht)
        have e3 := ClsV.all (.cons cx (.cons cy .nil)) rv
        subst e3
        obtain ⟨oc, od, dt, sl⟩ := o
        simp only at g2 g3
        subst g2 g3
        exact PySem.W.kia_tup Z I.kIn pp g1 (isiN_any ok en) hxx fun tk => ⟨.bl b, H, I.tok tk, rfl, q⟩
  refine PE.of (pe_callB hc hg hm PyProof.Rows.Boot.«isinstance» (pa_cons he (pa_cons (pe_tup (pa_cons px (pa_cons py pa_nil rfl) rfl)) pa_nil rfl) h1) (by decide) (by decide) h1 rfl) fun σ H Q h => ?_
  obtain ⟨μ, A, ρ, hr, fr, q⟩ := h
  refine ⟨μ, A, ρ, hr, fr, q.bnd.imp fun μ' H' d A' l r q v dv => ⟨by show 2 ≤ sizeLine; rw [sizeLine_eq]; omega, fun t nt => ?_⟩⟩
  have q : post X.K X.prog X.w W σ μ' H' (isiD S [x, y] d A') (vQ X.K Q) := q
  have l2 : Le μ' H' μ' (upd H' t (.tup [clW X.K x, clW X.K y])) := Le.add nt
  refine ⟨μ', A', d, v, t, rfl, upd_same, r.add nt, dv.le l2, ?_⟩
  unfold isiD at q ⊢
  cases et : tyD A' d with
  | none => simp only [et] at q; exact q.elim
  | some ty =>
    simp only [et] at q ⊢
    cases en : isiN S ty [x, y] with
    | none => simp only [en] at q; exact q.elim
    | some b =>
      simp only [en] at q ⊢
      exact ⟨b, _, rfl, q μ' _ l2 (r.add nt) _ rfl⟩
end
end Pi

/-! Pi22: subscripts, slices; facts of syntax; dict comprehension behind a name. -/
namespace Pi
open PyProof.Rows PySem L2 PySem.Spec

/-! ### subscripts -/
def bdI : D → M (Option Int)
  | .int i => ret (some i)
  | _ => noM
/-- a slice's bounds -/
abbrev BM := Fr → M (Option Int)
def bdN : BM := fun _ => ret none
def bdE (m : EM) : BM := fun ρ => bnd (m ρ) bdI
def eSlc (m : EM) (lo hi : BM) : EM := fun ρ => bnd (m ρ) fun x => bnd (lo ρ) fun a => bnd (hi ρ) fun b => slD x a b
section
variable {X : Cx} {W : WX} {a b e : Expr} {ma mb m : EM} {lo hi : Option Expr} {bl bh : BM} {pos p2 : Pos}
theorem de_ix (hu : X.A.units + 64 < cLine) (ha : DE X W a ma) (hb : DE X W b mb) (hs : PlainIx b) : DE X W (.Subscript a b pos) (eOp getD ma mb) :=
  ⟨fun pins s σ H Q I h => (pe_ix (ix_d hu W σ) ha hb hs).run pins s σ H Q I (tE_bnd2 h)⟩
def tB (X : Cx) (W : WX) (m : BM) : TO := fun σ H Q => ∃ μ A ρ, HR X.K X.prog X.w μ H A ∧ FR X.K μ H ρ σ ∧ post X.K X.prog X.w W σ μ H (m ρ A) fun _ H' b _ => Q b H'
abbrev DB (X : Cx) (W : WX) (o : Option Expr) (m : BM) : Prop := PO X o (tB X W m)
theorem PO.of {t t' : TO} {o : Option Expr} (h : PO X o t) (i : ∀ σ H Q, t' σ H Q → t σ H Q) : PO X o t' := ⟨fun pins s σ H Q I q => h.run pins s σ H Q I (i σ H Q q)⟩
theorem db_none : DB X W none bdN := PO.of po_none fun σ H Q h => by
  obtain ⟨μ, A, ρ, hr, fr, p⟩ := h
  exact p μ H (Le.refl _ _) hr
theorem db_some (he : DE X W e m) : DB X W (some e) (bdE m) := PO.of (po_some he) fun σ H Q h => by
  obtain ⟨μ, A, ρ, hr, fr, p⟩ := h
  refine ⟨μ, A, ρ, hr, fr, p.bnd.imp fun μ' H' d A' l r q v dv => ?_⟩
  cases d with
  | int i =>
    obtain rfl := dv
    exact ⟨i, rfl, q μ' H' (Le.refl _ _) r⟩
  | _ => exact q.elim
theorem de_slice (he : DE X W e m) (hl : DB X W lo bl) (hh : DB X W hi bh) : DE X W (.Subscript e (.Slice lo hi none p2) pos) (eSlc m bl bh) := by
  refine ⟨fun pins s σ H Q I h => (pe_slice (sl_d W σ) he hl hh).run pins s σ H Q I ?_⟩
  obtain ⟨μ, A, ρ, hr, fr, p⟩ := h
  refine ⟨μ, A, ρ, hr, fr, p.bnd.imp fun μ1 H1 d A1 l1 r1 q1 v dv => ⟨μ1, A1, ρ, r1, fr.le l1, q1.bnd.imp fun μ2 H2 x A2 l2 r2 q2 => ⟨μ2, A2, ρ, r2, (fr.le l1).le l2, q2.bnd.imp fun μ3 H3 y A3 l3 r3 q3 => ?_⟩⟩⟩
  exact ⟨μ3, A3, d, r3, (dv.le l2).le l3, q3⟩
end

/-! ### facts of syntax -/
def notStar : Expr → Bool
  | .Starred _ _ => false
  | _ => true
theorem star_one {e : Expr} {es : List Expr} {env : Env} (h : notStar e = true) : starEach (e :: es) env = (false, eval e env) :: starEach es env := by
  cases e <;> first | rfl | cases h
theorem star_none {es : List Expr} {env : Env} (h : es.all notStar = true) : (starEach es env).any (·.1) = false := by
  induction es with
  | nil => rfl
  | cons e es ih =>
    rw [List.all_cons, Bool.and_eq_true] at h
    rw [star_one h.1, List.any_cons, ih h.2]
    rfl
theorem star_len {es : List Expr} {env : Env} (h : es.all notStar = true) : (starEach es env).length = es.length := by
  induction es with
  | nil => rfl
  | cons e es ih =>
    rw [List.all_cons, Bool.and_eq_true] at h
    rw [star_one h.1, List.length_cons, List.length_cons, ih h.2]
theorem back_any {p : Pos} {l : List (Bool × Sem Value)} (h : l.any (·.1) = false) : (backTo p l).any (·.1) = false := by
  cases l with
  | nil => rfl
  | cons a t =>
    induction t generalizing a with
    | nil => obtain ⟨b, m⟩ := a; simpa [backTo] using h
    | cons c t ih =>
      obtain ⟨b, m⟩ := a
      rw [List.any_cons, Bool.or_eq_false_iff] at h
      first
        | (show (b || (backTo p (c :: t)).any (·.1)) = false; rw [ih c h.2, h.1]; rfl)
        | (simp [backTo] at h ⊢; exact h)
end Pi

/-! Pi23: from the text to readings: tables, contexts, names, further facts of syntax. -/
namespace Pi
open PyProof.Rows PySem L2 PySem.Spec

/-! ### further facts of syntax -/
theorem few_ok {args : List Expr} {env : Env} {p : Pos} (h : args.all notStar = true) (hl : args.length < 30) : methodCallForm (args.length + ([] : List Keyword).length) (backTo p (starEach args env)) (backToKw p (keywordEach [] env)) = true := by
  have h1 : (backTo p (starEach args env)).all (fun x => !x.1) = true := by
    rw [List.all_eq_true]
    intro x hx
    have z := back_any (p := p) (star_none (env := env) h)
    rw [List.any_eq_false] at z
    have := z x hx
    cases e : x.1 with
    | true => exact absurd e this
    | false => rfl
  unfold methodCallForm
  rw [h1]
  show (true && ([] : List (Option Str × Sem Value)).all _ && decide (args.length + 0 + 0 < 30)) = true
  rw [decide_eq_true (by omega)]
  rfl
def notSuper : Expr → Bool
  | .Call (.Name id _) [] [] _ => id != "super"
  | _ => true
theorem att_base {o : Expr} {f : Str} {env : Env} {w : Sem Value} (h : notSuper o = true) : attributeBase o f env w = w := by
  unfold attributeBase
  split
  · rename_i id p1 p2
    have h : (id != "super") = true := h
    rw [h]
    rfl
  · rfl
def plainTest : Expr → Bool
  | .UnaryOp .Not _ _ => false
  | .BoolOp _ _ _ => false
  | .IfExp _ _ _ _ => false
  | .Compare _ _ _ _ => false
  | _ => true
theorem test_form {e : Expr} {env : Env} (h : plainTest e = true) (whole : Sem Value) : isTrue e env whole = (do let v ← whole; standAt e.pos; holding [v] (truthy v)) := by
  cases e with
  | UnaryOp op a p => cases op <;> first | rfl | cases h
  | BoolOp _ _ _ => cases h
  | IfExp _ _ _ _ => cases h
  | Compare _ _ _ _ => cases h
  | _ => rfl
def notComp : Expr → Bool
  | .ListComp _ _ _ _ => false
  | .SetComp _ _ _ _ => false
  | .DictComp _ _ _ _ _ => false
  | _ => true
theorem sw_false {e : Expr} {t : Option Expr} {l : Nat} {env : Env} (h : notComp e = true) : swapsWith e t l env = pure false := by
  cases e <;> first | rfl | cases h
def notSet : Expr → Bool
  | .Set _ _ _ => false
  | _ => true
theorem fold_set {e : Expr} {env : Env} (h : notSet e = true) (x : Value) : foldedSetIterable e env x = pure x := by
  cases e <;> first | rfl | cases h
theorem marks_set {op : CmpOp} {e : Expr} (h : notSet e = true) : behindInMarks op e = false := by
  cases e <;> first | rfl | cases h
def notSlice : Expr → Bool
  | .Slice _ _ _ _ => false
  | _ => true
theorem plain_ix {e : Expr} (h : notSlice e = true) : PlainIx e := by
  cases e <;> first | (intro o i; rfl) | cases h
theorem asg_one {e : Expr} {es : List Expr} {env : Env} (h : notStar e = true) : assignEach (e :: es) env = (false, assign e env) :: assignEach es env := by
  cases e <;> first | rfl | cases h
theorem asg_none {es : List Expr} {env : Env} (h : es.all notStar = true) : (assignEach es env).findIdx? (·.1) = none ∧ (assignEach es env).length = es.length := by
  induction es with
  | nil => exact ⟨rfl, rfl⟩
  | cons e es ih =>
    rw [List.all_cons, Bool.and_eq_true] at h
    obtain ⟨i1, i2⟩ := ih h.2
    rw [asg_one h.1]
    refine ⟨?_, by rw [List.length_cons, List.length_cons, i2]⟩
    rw [List.findIdx?_cons, i1]
    rfl
def notTup : Expr → Bool
  | .Tuple _ _ _ => false
  | .List _ _ => false
  | _ => true
def notTupV : Expr → Bool
  | .Tuple _ _ _ => false
  | _ => true
theorem stores_none {t e : Expr} {env : Env} (h : notTup t = true ∨ notTupV e = true) : swappedStores [t] e env = pure none := by
  rcases h with h | h
  · cases t <;> first | rfl | cases h
  · cases e <;> first | (cases t <;> rfl) | cases h
/-- is the name at a slot -/
def ixOf : List Str → Str → Option Nat
  | [], _ => none
  | y :: r, x => if y = x then some 0 else (ixOf r x).map (· + 1)
theorem ixOf_ok : ∀ {N : List Str} {x : Str} {i : Nat}, ixOf N x = some i → N[i]? = some x
  | [], _, _, h => by cases h
  | y :: r, x, i, h => by
    unfold ixOf at h
    by_cases e : y = x
    · rw [if_pos e] at h
      cases h
      rw [e]
      rfl
    · rw [if_neg e] at h
      obtain ⟨j, h1, rfl⟩ := Option.map_eq_some_iff.mp h
      simpa using ixOf_ok h1

/-! ### tables -/
structure Tb where
  fns : Str → Nat → Option FM
  mkr : Str → Nat → Option FM
  mts : Mts
  att : Att
  exa : Att
  sub : Sub
  exs : Exs
  exc : Str → Option (Nat × List (Str × Nat))
  exc0 : Str → Bool
  glb : Str → Option D
  cls : Str → Bool
  fre : Str → Bool
structure TbSt (T : Tb) (X : Cx) : Prop where
  att : AttOk X.K T.att
  exa : AttX X.K T.exa
  sub : SubOk X.K T.sub
  exs : ExsOk X.K T.exs
  glb : ∀ x d, T.glb x = some d → ∃ v u, X.mg x = some u ∧ RelV v u ∧ ∀ μ H, DV X.K μ H d v
  cls : ∀ x, T.cls x = true → (∃ n, btNm x = some n ∧ X.mg x = none ∧ bootBuiltins x = some (.type n)) ∨ (btNm x = none ∧ X.mg x = some (.ref (He.ga X.K x)))
  fre : ∀ x, T.fre x = true → X.mg x = none
  hu : X.A.units + 100 < cLine
  gd : X.A.guards = some []
structure TbOk (T : Tb) (X : Cx) : Prop where
  fns : ∀ x m g, T.fns x m = some g → CalOk X x m g
  mkr : ∀ x m g, T.mkr x m = some g → MakOk X x m g
  mts : MtsOk X T.mts
  exc : ∀ x np fs, T.exc x = some (np, fs) → ExcOk X x np fs
  exc0 : ∀ x, T.exc0 x = true → ExcOk0 X x
/-- where an expression stands: its scope; whether calls of one's own are let; the cells that may be written -/
structure Ev where
  sc : Scope
  calm : Bool
  fk : Str → Bool
structure Good (T : Tb) (N : List Str) (V : Ev) (X : Cx) (W : WX) : Prop where
  st : TbSt T X
  ok : V.calm = true → X.calm = true ∧ TbOk T X
  tk : Takes X W
  sc : X.env.scope = V.sc
  nm : X.N = N
  nd : N.Nodup
  fn : ∀ x, V.fk x = true → X.fn x = true
/-- a block's scope within another one -/
def relS (s sc : Scope) : Scope := { s with names := s.names.map fun (n, k) => if (k == NameKind.free && sc.kind == .function && sc.names.lookup n == some .cell) then (n, NameKind.cell) else (n, k) }
def Ev.blk (V : Ev) (s : Scope) : Ev := ⟨relS s V.sc, V.calm, fun x => s.names.lookup x == some .cell⟩
section
variable {T : Tb} {N : List Str} {V : Ev} {X : Cx} {W W' : WX}
theorem Good.w0 (g : Good T N V X W) : Good T N V X W0 := ⟨g.st, g.ok, takes_none5, g.sc, g.nm, g.nd, g.fn⟩
theorem Good.blk (g : Good T N V X W) (scope : Scope) : InBlk X scope fun Y => Good T N (V.blk scope) Y W0 := fun s H C cl fp =>
  ⟨⟨g.st.att, g.st.exa, g.st.sub, g.st.exs, g.st.glb, g.st.cls, g.st.fre, g.st.hu, g.st.gd⟩, fun h => ⟨(g.ok h).1, ⟨(g.ok h).2.fns, (g.ok h).2.mkr, (g.ok h).2.mts, (g.ok h).2.exc, (g.ok h).2.exc0⟩⟩, takes_none5, by
    show relabel scope X.env = relS scope V.sc
    rw [← g.sc]
    rfl, g.nm, g.nd, fun x h => h⟩
end
end Pi

/-! Pi24: from the text to readings: expressions. -/
namespace Pi
open PyProof.Rows PySem L2 PySem.Spec

/-- where the guard holds -/
def gd {α : Type} : Bool → Option α → Option α
  | true, x => x
  | false, _ => none
theorem gd_ok {α : Type} {c : Bool} {x : Option α} {a : α} (h : gd c x = some a) : c = true ∧ x = some a := by
  cases c with
  | true => exact ⟨rfl, h⟩
  | false => cases h
theorem bd {α β : Type} {o : Option α} {f : α → Option β} {b : β} (h : o.bind f = some b) : ∃ a, o = some a ∧ f a = some b := Option.bind_eq_some_iff.mp h
theorem mp_ok {α β : Type} {o : Option α} {f : α → β} {b : β} (h : o.map f = some b) : ∃ a, o = some a ∧ f a = b := Option.map_eq_some_iff.mp h
theorem an {a b : Bool} (h : (a && b) = true) : a = true ∧ b = true := Bool.and_eq_true_iff.mp h

/-- readings of the parts -/
structure Rd where
  E : Ev → Expr → Option EM
  T : Ev → Expr → Option TM
structure RdOk (T : Tb) (N : List Str) (c : Rd) : Prop where
  E : ∀ {V : Ev} {X : Cx} {W : WX} {e : Expr} {m : EM}, Good T N V X W → c.E V e = some m → DE X W e m
  T : ∀ {V : Ev} {X : Cx} {W : WX} {e : Expr} {m : TM}, Good T N V X W → c.T V e = some m → DT X W e m
section
variable (T : Tb) (N : List Str) (c : Rd)
/-! ### names, constants -/
def visB (V : Ev) (x : Str) : Bool := match V.sc.names.lookup x with
  | some .local => true
  | some .cell => true
  | some .free => true
  | _ => false
def locB (V : Ev) (x : Str) : Bool := match V.sc.names.lookup x with
  | some .local => true
  | some .cell => V.fk x
  | _ => false
def glbB (V : Ev) (x : Str) : Bool := decide (V.sc.names.lookup x = some .globalImplicit) && !(x == ("__debug__" : Str))
def nameE (V : Ev) (x : Str) : Option EM := gd (!(x == ("__debug__" : Str)) && !(x == ("__classdict__" : Str))) (match visB V x with
  | true => (ixOf N x).map eVar
  | false => gd (glbB V x) ((T.glb x).map eC))
def constE : Const → Option EM
  | .int i => some (eC (.int i))
  | .bool b => some (eC (.bl b))
  | .none => some (eC .non)
  | .str x => some (eC (.str x))
  | _ => none
def binG : Operator → Option (D → D → M D)
  | .Add => some addD
  | .Sub => some subD
  | .Mult => some mulD
  | .FloorDiv => some fdivD
  | .Mod => some modD
  | .Pow => some powD
  | _ => none
def cmpG : CmpOp → Option (D → D → M D)
  | .Eq => some eqD
  | .NotEq => some neD
  | .Lt => some ltD
  | .LtE => some leD
  | .Gt => some gtD
  | .GtE => some geD
  | .Is => some isD
  | .IsNot => some isnD
  | .In => some inD
  | .NotIn => some ninD
/-! ### lists of parts -/
def cA (f : Expr → Option EM) : List Expr → Option AM
  | [] => some aNil
  | e :: es => gd (notStar e) ((f e).bind fun m => (cA f es).map (aCons m))
def cBool (f : Expr → Option EM) (k : EM → EM → EM) : List Expr → Option EM
  | [] => none
  | [e] => f e
  | e :: r => (f e).bind fun m => (cBool f k r).map (k m)
def cTw (f : Expr → Option TM) (k : TM → TM → TM) : List Expr → Option TM
  | [] => none
  | [e] => f e
  | e :: r => (f e).bind fun m => (cTw f k r).map (k m)
def cPs (f : Expr → Option EM) : List (Option Expr) → List Expr → Option (List (EM × EM))
  | [], [] => some []
  | some k :: ks, v :: vs => (f k).bind fun mk => (f v).bind fun mv => (cPs f ks vs).map fun r => (mk, mv) :: r
  | _, _ => none
/-! ### calls -/
def bltG (calm : Bool) (x : Str) : Option FM :=
  if x = "len" then some lenD else if x = "list" then some listD else if x = "tuple" then some tupleD else if x = "int" then some intD else if x = "str" then some strD else if x = "repr" then some reprD
  else gd calm (if x = "max" then some maxD else if x = "min" then some minD else if x = "sum" then some sumD else if x = "all" then some allD else if x = "any" then some anyD else none)
def isiC (V : Ev) (c : Expr) : Option (List Str) := match c with
  | .Name x _ => gd (glbB V x && (T.cls x && !(x == ("__name__" : Str)))) (some [x])
  | .Tuple [.Name x _, .Name y _] _ _ => gd ((glbB V x && (T.cls x && !(x == ("__name__" : Str)))) && (glbB V y && (T.cls y && !(y == ("__name__" : Str))))) (some [x, y])
  | _ => none
def callE (V : Ev) (x : Str) (args : List Expr) : Option EM := gd (glbB V x) (match x == ("isinstance" : Str), args with
  | true, [e, cl] => gd (T.fre x && notStar e) ((c.E V e).bind fun m => (isiC T V cl).map fun cs => eIsi T.sub cs m)
  | true, _ => none
  | false, [] => gd V.calm (match T.fns x 0 with
    | some g => some (eCall g aNil)
    | none => match T.mkr x 0 with
      | some g => some (eMake x g aNil)
      | none => gd (T.exc0 x) (some (eC (exvOf x []))))
  | false, e :: es => (cA (c.E V) (e :: es)).bind fun t => match gd V.calm (T.fns x (es.length + 1)) with
    | some g => some (eCall g t)
    | none => match gd V.calm (T.mkr x (es.length + 1)) with
      | some g => some (eMake x g t)
      | none => match gd V.calm (T.exc x) with
        | some (np, fs) => some (eExc x np fs t)
        | none => gd (T.fre x) ((bltG V.calm x).map fun g => eCall g t))
def noMts : Mts := fun _ _ => none
def methE (V : Ev) (o : Expr) (name : Str) (apos pos : Pos) (args : List Expr) : Option EM := gd (notSuper o && ((apos.endLine == pos.line) && decide (args.length < 30)))
  ((c.E V o).bind fun mo => (cA (c.E V) args).map fun t => eMeth (if V.calm = true then T.mts else noMts) name mo t)
/-! ### iterators, targets, comprehensions -/
def isTup : Expr → Bool
  | .Tuple _ _ _ => true
  | _ => false
def cI (V : Ev) (tg it : Expr) : Option (Fr → M Src) := match it with
  | .Call (.Name x p) args [] q => match glbB V x && T.fre x with
    | true => (match x == ("range" : Str), x == ("enumerate" : Str), x == ("zip" : Str), args with
      | true, _, _, [e] => gd (notStar e) ((c.E V e).map mRng1)
      | true, _, _, [e, e2] => gd (notStar e && notStar e2) ((c.E V e).bind fun m => (c.E V e2).map (mRng2 m))
      | false, true, _, [e] => gd (notStar e && isTup tg) ((c.E V e).map mEnu)
      | false, false, true, [e, e2] => gd ((notStar e && notStar e2) && isTup tg) ((c.E V e).bind fun m => (c.E V e2).map (mZip m))
      | _, _, _, _ => (c.E V it).map mSrc)
    | false => (c.E V it).map mSrc
  | _ => (c.E V it).map mSrc
def cNames (V : Ev) : List Expr → Option (List Nat)
  | [] => some []
  | .Name x _ :: r => gd (locB V x) ((ixOf N x).bind fun i => (cNames V r).map (i :: ·))
  | _ => none
def cTg (V : Ev) : Expr → Option Tgt
  | .Name x _ => gd (locB V x) ((ixOf N x).map .one)
  | .Tuple es _ _ => (cNames N V es).map .tup
  | _ => none
def cIfs (f : Expr → Option TM) : List Expr → Option TM
  | [] => some tYesM
  | [e] => f e
  | _ => none
def ownOf (s : Scope) : List (Str × Nat) := s.names.filterMap fun (n, k) => if k = .local ∨ k = .cell then (ixOf N n).map fun i => (n, i) else none
def blkG (V : Ev) (s : Scope) (iter : Expr) (asy : Int) (g : Tgt) : Bool := V.calm && ((asy == 0) && (notSet iter && (blkC N V.sc s (ownOf N s) && (g.ix.all fun i => decide (i ∈ (ownOf N s).map (·.2))))))
noncomputable def compL (V : Ev) (elt : Expr) (tg iter : Expr) (ifs : List Expr) (asy : Int) (s : Scope) : Option EM :=
  (cI T c V tg iter).bind fun ms => (cTg N (V.blk s) tg).bind fun g => (cIfs (c.T (V.blk s)) ifs).bind fun tt => (c.E (V.blk s) elt).bind fun te => gd (blkG N V s iter asy g) (some (eLc ms g tt te ((ownOf N s).map (·.2))))
noncomputable def compD (V : Ev) (kx vx : Expr) (tg iter : Expr) (ifs : List Expr) (asy : Int) (s : Scope) : Option EM :=
  (cI T c V tg iter).bind fun ms => (cTg N (V.blk s) tg).bind fun g => (cIfs (c.T (V.blk s)) ifs).bind fun tt => (c.E (V.blk s) kx).bind fun tk => (c.E (V.blk s) vx).bind fun tv => gd (blkG N V s iter asy g) (some (eDc ms g tt tk tv ((ownOf N s).map (·.2))))
/-! ### expressions, tests -/
def cB (V : Ev) : Option Expr → Option BM
  | none => some bdN
  | some e => (c.E V e).map bdE
noncomputable def stepE (V : Ev) (e : Expr) : Option EM := match e with
  | .Name x _ => nameE T N V x
  | .Constant v _ _ => constE v
  | .BinOp a op b _ => (binG op).bind fun g => (c.E V a).bind fun ma => (c.E V b).map (eOp g ma)
  | .UnaryOp .USub a _ => (c.E V a).map (eUn negD)
  | .UnaryOp .Not a _ => (c.E V a).map eNot
  | .BoolOp .And es _ => cBool (c.E V) eAnd es
  | .BoolOp .Or es _ => cBool (c.E V) eOr es
  | .IfExp t a b _ => (c.T V t).bind fun mt => (c.E V a).bind fun ma => (c.E V b).map (eIf mt ma)
  | .Compare a [op] [b] _ => gd (notSet b) ((cmpG op).bind fun g => (c.E V a).bind fun ma => (c.E V b).map (eOp g ma))
  | .Compare a [op, op'] [b, d] _ => gd (notSet d) ((cmpG op).bind fun g => (cmpG op').bind fun g' => (c.E V a).bind fun ma => (c.E V b).bind fun mb => (c.E V d).map (eChain g g' ma mb))
  | .Tuple es _ _ => (cA (c.E V) es).map eTup
  | .List es _ => (cA (c.E V) es).map eLst
  | .Dict [] [] _ => some eDisp0
  | .Dict (k :: ks) vs _ => gd ((k :: ks).all (·.isSome) && (decide ((k :: ks).length = vs.length) && decide ((k :: ks).length ≤ 15))) ((cPs (c.E V) (k :: ks) vs).map eDisp)
  | .Subscript o (.Slice lo hi none _) _ => (c.E V o).bind fun m => (cB c V lo).bind fun a => (cB c V hi).map (eSlc m a)
  | .Subscript o i _ => gd (notSlice i) ((c.E V o).bind fun m => (c.E V i).map (eOp getD m))
  | .Attribute o f _ => gd (notSuper o) ((c.E V o).map (eFldX T.att T.exa f))
  | .Call (.Name x _) args [] _ => callE T c V x args
  | .Call (.Attribute o name apos) args [] pos => methE T c V o name apos pos args
  | .ListComp elt [⟨tg, iter, ifs, asy⟩] s _ => compL T N c V elt tg iter ifs asy s
  | .DictComp kx vx [⟨tg, iter, ifs, asy⟩] s _ => compD T N c V kx vx tg iter ifs asy s
  | _ => none
def stepT (V : Ev) (e : Expr) : Option TM := match e with
  | .UnaryOp .Not a _ => (c.T V a).map tNot
  | .BoolOp .And es _ => cTw (c.T V) tAnd es
  | .BoolOp .Or es _ => cTw (c.T V) tOr es
  | .Compare a [op] [b] _ => gd (notSet b) ((cmpG op).bind fun g => (c.E V a).bind fun ma => (c.E V b).map (tCmp g ma))
  | .Compare a [op, op'] [b, d] _ => gd (notSet d) ((cmpG op).bind fun g => (cmpG op').bind fun g' => (c.E V a).bind fun ma => (c.E V b).bind fun mb => (c.E V d).map (tChn g g' ma mb))
  | e => gd (plainTest e) ((c.E V e).map tOf)
noncomputable def stepR : Rd := ⟨stepE T N c, stepT c⟩
noncomputable def rdN : Nat → Rd
  | 0 => ⟨fun _ _ => none, fun _ _ => none⟩
  | n + 1 => stepR T N (rdN n)
end
end Pi

/-! Pi25: the readings of expressions are right. -/
namespace Pi
open PyProof.Rows PySem L2 PySem.Spec
section
variable {T : Tb} {N : List Str} {c : Rd} {V : Ev} {X : Cx} {W : WX}
theorem nt {b : Bool} (h : (!b) = true) : b = false := by cases b <;> first | rfl | cases h
theorem vis_ok (g : Good T N V X W) {x : Str} (h : visB V x = true) : Vis X.env.scope x := by
  unfold visB at h
  rw [g.sc]
  split at h
  · rename_i e; exact .inl e
  · rename_i e; exact .inr (.inl e)
  · rename_i e; exact .inr (.inr e)
  · cases h
theorem loc_ok (g : Good T N V X W) {x : Str} (h : locB V x = true) : Loc X.env.scope x ∧ (X.fn x = true ∨ X.env.scope.names.lookup x = some .local) := by
  unfold locB at h
  rw [g.sc]
  split at h
  · rename_i e; exact ⟨.inl e, .inr e⟩
  · rename_i e; exact ⟨.inr e, .inl (g.fn _ h)⟩
  · cases h
theorem glb_ok (g : Good T N V X W) {x : Str} (h : glbB V x = true) : Gl X x ∧ (x == ("__debug__" : Str)) = false := by
  obtain ⟨h1, h2⟩ := an h
  refine ⟨?_, nt h2⟩
  show X.env.scope.names.lookup x = _
  rw [g.sc]
  exact of_decide_eq_true h1
theorem nameE_ok (g : Good T N V X W) {x : Str} {p : Pos} {m : EM} (h : nameE T N V x = some m) : DE X W (.Name x p) m := by
  obtain ⟨h0, h⟩ := gd_ok h
  obtain ⟨h1, h2⟩ := an h0
  cases ev : visB V x with
  | true =>
    rw [ev] at h
    obtain ⟨i, hi, rfl⟩ := mp_ok h
    exact de_var (by rw [g.nm]; exact ixOf_ok hi) (vis_ok g ev) (nt h1) (nt h2)
  | false =>
    rw [ev] at h
    obtain ⟨hg, h⟩ := gd_ok h
    obtain ⟨d, hd, rfl⟩ := mp_ok h
    obtain ⟨v, u, hm, r, dv⟩ := g.st.glb _ _ hd
    obtain ⟨hG, hdb⟩ := glb_ok g hg
    exact de_tC (pe_glob hG hm r hdb) dv
theorem constE_ok {v : Const} {k : Nat} {p : Pos} {m : EM} (h : constE v = some m) : DE X W (.Constant v k p) m := by
  cases v <;> first | (cases h; first | exact de_int | exact de_bl | exact de_non | exact de_str) | cases h
theorem binG_ok {op : Operator} {f : D → D → M D} (h : binG op = some f) : OpD X (binaryOp op) f := by
  cases op <;> first | (cases h; first | exact od_add | exact od_sub | exact od_mul | exact od_fdiv | exact od_mod | exact od_pow) | cases h
theorem cmpG_ok (g : Good T N V X W) {op : CmpOp} {f : D → D → M D} (h : cmpG op = some f) : OpD X (compareOp op) f := by
  have hu := g.st.hu
  cases op <;> first | (cases h; first | exact od_eq (by omega) | exact od_ne (by omega) | exact od_lt | exact od_le | exact od_gt | exact od_ge | exact od_is | exact od_isn | exact od_in (by omega) | exact od_nin (by omega)) | cases h
theorem cA_ok (hf : ∀ {e : Expr} {m : EM}, c.E V e = some m → DE X W e m) : ∀ {es : List Expr} {t : AM}, cA (c.E V) es = some t → DA X W es t ∧ ALen t es.length ∧ es.all notStar = true
  | [], t, h => by
    cases h
    exact ⟨da_nil, alen_nil, rfl⟩
  | e :: es, t, h => by
    obtain ⟨h0, h⟩ := gd_ok h
    obtain ⟨m, hm, h⟩ := bd h
    obtain ⟨r, hr, rfl⟩ := mp_ok h
    obtain ⟨h1, h2, h3⟩ := cA_ok hf hr
    exact ⟨da_cons (hf hm) h1 (star_one h0), alen_cons h2, by rw [List.all_cons, h0, h3]; rfl⟩
theorem cBool_and (hf : ∀ {e : Expr} {m : EM}, c.E V e = some m → DE X W e m) {p : Pos} : ∀ {es : List Expr} {m : EM}, cBool (c.E V) eAnd es = some m → DE X W (.BoolOp .And es p) m
  | [], m, h => by cases h
  | [e], m, h => de_one (hf h)
  | e :: e2 :: es, m, h => by
    obtain ⟨m1, h1, h⟩ := bd h
    obtain ⟨m2, h2, rfl⟩ := mp_ok h
    exact de_and (hf h1) (cBool_and hf h2)
theorem cBool_or (hf : ∀ {e : Expr} {m : EM}, c.E V e = some m → DE X W e m) {p : Pos} : ∀ {es : List Expr} {m : EM}, cBool (c.E V) eOr es = some m → DE X W (.BoolOp .Or es p) m
  | [], m, h => by cases h
  | [e], m, h => de_one (hf h)
  | e :: e2 :: es, m, h => by
    obtain ⟨m1, h1, h⟩ := bd h
    obtain ⟨m2, h2, rfl⟩ := mp_ok h
    exact de_or (hf h1) (cBool_or hf h2)
theorem cTw_and (hf : ∀ {e : Expr} {m : TM}, c.T V e = some m → DT X W e m) {p : Pos} : ∀ {es : List Expr} {m : TM}, cTw (c.T V) tAnd es = some m → DW X W (.BoolOp .And es p) m
  | [], m, h => by cases h
  | [e], m, h => dw_and1 (hf h)
  | e :: e2 :: es, m, h => by
    obtain ⟨m1, h1, h⟩ := bd h
    obtain ⟨m2, h2, rfl⟩ := mp_ok h
    exact dw_and (hf h1) (cTw_and hf h2)
theorem cTw_or (hf : ∀ {e : Expr} {m : TM}, c.T V e = some m → DT X W e m) {p : Pos} : ∀ {es : List Expr} {m : TM}, cTw (c.T V) tOr es = some m → DW X W (.BoolOp .Or es p) m
  | [], m, h => by cases h
  | [e], m, h => dw_or1 (hf h)
  | e :: e2 :: es, m, h => by
    obtain ⟨m1, h1, h⟩ := bd h
    obtain ⟨m2, h2, rfl⟩ := mp_ok h
    exact dw_or (hf h1) (cTw_or hf h2)
theorem cPs_ok (hf : ∀ {e : Expr} {m : EM}, c.E V e = some m → DE X W e m) {p : Pos} : ∀ {ks : List (Option Expr)} {vs : List Expr} {r : List (EM × EM)}, cPs (c.E V) ks vs = some r → DPs X W p ks vs r
  | [], [], r, h => by cases h; exact .nil
  | some k :: ks, v :: vs, r, h => by
    obtain ⟨mk, h1, h⟩ := bd h
    obtain ⟨mv, h2, h⟩ := bd h
    obtain ⟨t, h3, rfl⟩ := mp_ok h
    exact .cons (hf h1) (hf h2) (cPs_ok hf h3)
  | none :: ks, _, r, h => by cases h
  | some k :: ks, [], r, h => by cases h
  | [], v :: vs, r, h => by cases h
/-! ### calls -/
theorem clNm_of (g : Good T N V X W) {x : Str} (h : (glbB V x && (T.cls x && !(x == ("__name__" : Str)))) = true) : ClNm X x := by
  obtain ⟨h1, h2⟩ := an h
  obtain ⟨h2, h3⟩ := an h2
  obtain ⟨hg, hd⟩ := glb_ok g h1
  exact ⟨hg, hd, (fun e => by have := nt h3; rw [e] at this; cases this), g.st.cls x h2⟩
theorem isi_ok (hc : RdOk T N c) (g : Good T N V X W) {e cl : Expr} {m : EM} {cs : List Str} {p q : Pos} (he : DE X W e m) (hn : notStar e = true) (hG : Gl X "isinstance") (hm : X.mg "isinstance" = none) (h : isiC T V cl = some cs) :
    DE X W (.Call (.Name "isinstance" p) [e, cl] [] q) (eIsi T.sub cs m) := by
  unfold isiC at h
  split at h
  · obtain ⟨h1, h⟩ := gd_ok h
    cases h
    exact de_isi g.st.sub he (clNm_of g h1) hG hm (star_one hn)
  · obtain ⟨h1, h⟩ := gd_ok h
    cases h
    obtain ⟨h1, h2⟩ := an h1
    exact de_isiT g.st.sub he (clNm_of g h1) (clNm_of g h2) hG hm (star_one hn)
  · cases h
theorem blt_ok (g : Good T N V X W) {x : Str} {f : FM} {t : AM} {e : Expr} {es : List Expr} {p q : Pos} (hG : Gl X x) (hd : (x == ("__debug__" : Str)) = false) (hm : X.mg x = none) (ha : DA X W (e :: es) t) (hs : (e :: es).all notStar = true) (h : bltG V.calm x = some f) :
    DE X W (.Call (.Name x p) (e :: es) [] q) (eCall f t) := by
  obtain ⟨s1, s2⟩ := an (show (notStar e && es.all notStar) = true from by rw [← List.all_cons]; exact hs)
  have he := star_one (es := es) (env := X.env) s1
  have hpl := back_any (p := q) (star_none (env := X.env) s2)
  have hu := g.st.hu
  unfold bltG at h
  split at h
  · rename_i e1; cases h; subst e1
    exact de_callB cd_len hG hm boot_len ha (by decide) hd he hpl
  split at h
  · rename_i e1; cases h; subst e1
    exact de_callT cd_list hG hm PyProof.Rows.Boot.«list» ha (by decide) hd he hpl
  split at h
  · rename_i e1; cases h; subst e1
    exact de_callT cd_tuple hG hm PyProof.Rows.Boot.«tuple» ha (by decide) hd he hpl
  split at h
  · rename_i e1; cases h; subst e1
    exact de_callT cd_int hG hm PyProof.Rows.Boot.«int» ha (by decide) hd he hpl
  split at h
  · rename_i e1; cases h; subst e1
    exact de_callT cd_str hG hm PyProof.Rows.Boot.«str» ha (by decide) hd he hpl
  split at h
  · rename_i e1; cases h; subst e1
    exact de_callB (cd_repr (by omega) g.st.gd) hG hm PyProof.Rows.Boot.«repr» ha (by decide) hd he hpl
  obtain ⟨hcm, h⟩ := gd_ok h
  have hc := (g.ok hcm).1
  split at h
  · rename_i e1; cases h; subst e1
    exact de_callB (cd_max hc) hG hm PyProof.Rows.Boot.«max» ha (by decide) hd he hpl
  split at h
  · rename_i e1; cases h; subst e1
    exact de_callB (cd_min hc) hG hm PyProof.Rows.Boot.«min» ha (by decide) hd he hpl
  split at h
  · rename_i e1; cases h; subst e1
    exact de_callB (cd_sum hc) hG hm PyProof.Rows.Boot.«sum» ha (by decide) hd he hpl
  split at h
  · rename_i e1; cases h; subst e1
    exact de_callB (cd_all hc) hG hm PyProof.Rows.Boot.«all» ha (by decide) hd he hpl
  split at h
  · rename_i e1; cases h; subst e1
    exact de_callB (cd_any hc) hG hm PyProof.Rows.Boot.«any» ha (by decide) hd he hpl
  · cases h
theorem callE_ok (hc : RdOk T N c) (g : Good T N V X W) {x : Str} {args : List Expr} {m : EM} {p q : Pos} (h9 : callE T c V x args = some m) : DE X W (.Call (.Name x p) args [] q) m := by
  obtain ⟨hg, h⟩ := gd_ok h9
  obtain ⟨hG, hd⟩ := glb_ok g hg
  split at h
  · rename_i e cl e1
    have e1 : x = "isinstance" := eq_of_beq e1
    subst e1
    obtain ⟨h0, h⟩ := gd_ok h
    obtain ⟨hf, hn⟩ := an h0
    obtain ⟨m1, hm, h⟩ := bd h
    obtain ⟨cs, hcs, rfl⟩ := mp_ok h
    exact isi_ok hc g (hc.E g hm) hn hG (g.st.fre _ hf) hcs
  · cases h
  · obtain ⟨hcm, h8⟩ := gd_ok h
    clear h
    have h := h8
    clear h8
    have ok := (g.ok hcm).2
    split at h
    · rename_i f e1
      cases h
      exact de_call0 (ok.fns _ _ _ e1) g.tk hG hd
    · split at h
      · rename_i f e1
        cases h
        exact de_make0 (ok.mkr _ _ _ e1) g.tk hG hd
      · obtain ⟨h0, h⟩ := gd_ok h
        cases h
        exact de_mkExc0 (ok.exc0 _ h0) hG hd
  · rename_i e es e0
    obtain ⟨t, ht, h8⟩ := bd h
    clear h
    have h := h8
    clear h8
    obtain ⟨ha, hl, hs⟩ := cA_ok (fun h => hc.E g h) ht
    obtain ⟨s1, s2⟩ := an (show (notStar e && es.all notStar) = true from by rw [← List.all_cons]; exact hs)
    have he := star_one (es := es) (env := X.env) s1
    have hpl := back_any (p := q) (star_none (env := X.env) s2)
    split at h
    · rename_i f e1
      cases h
      obtain ⟨hcm, e1⟩ := gd_ok e1
      exact de_call ((g.ok hcm).2.fns _ _ _ e1) g.tk hG ha hl hd he hpl
    · split at h
      · rename_i f e1
        cases h
        obtain ⟨hcm, e1⟩ := gd_ok e1
        exact de_make ((g.ok hcm).2.mkr _ _ _ e1) g.tk hG ha hl hd he hpl
      · split at h
        · rename_i np fs e1
          cases h
          obtain ⟨hcm, e1⟩ := gd_ok e1
          exact de_mkExc ((g.ok hcm).2.exc _ _ _ e1) hG ha hd he hpl
        · obtain ⟨hf, h⟩ := gd_ok h
          obtain ⟨f, hf2, rfl⟩ := mp_ok h
          exact blt_ok g hG hd (g.st.fre _ hf) ha hs hf2
theorem methE_ok (hc : RdOk T N c) (g : Good T N V X W) {o : Expr} {name : Str} {apos pos : Pos} {args : List Expr} {m : EM} (h : methE T c V o name apos pos args = some m) : DE X W (.Call (.Attribute o name apos) args [] pos) m := by
  obtain ⟨h0, h⟩ := gd_ok h
  obtain ⟨hn, h0⟩ := an h0
  obtain ⟨hline, hlen⟩ := an h0
  obtain ⟨mo, hm, h⟩ := bd h
  obtain ⟨t, ht, rfl⟩ := mp_ok h
  obtain ⟨ha, hl, hs⟩ := cA_ok (fun h => hc.E g h) ht
  have hu := g.st.hu
  have ok : MtsOk X (if V.calm = true then T.mts else noMts) := by
    by_cases e : V.calm = true
    · rw [if_pos e]
      exact (g.ok e).2.mts
    · rw [if_neg e]
      exact fun c m np g h => nomatch h
  refine de_meth (by omega) ok g.tk (hc.E g hm) (att_base hn) hline (few_ok hs (of_decide_eq_true hlen)) ?_
  cases args with
  | nil =>
    cases ht
    exact .inl ⟨rfl, rfl⟩
  | cons a0 r =>
    obtain ⟨s1, s2⟩ := an (show (notStar a0 && r.all notStar) = true from by rw [← List.all_cons]; exact hs)
    exact .inr ⟨ha, a0, r, rfl, star_one s1, back_any (star_none s2)⟩
end
end Pi

/-! Pi26: iterators, comprehensions; the step of expressions is right. -/
namespace Pi
open PyProof.Rows PySem L2 PySem.Spec
section
variable {T : Tb} {N : List Str} {c : Rd} {V : Ev} {X : Cx} {W : WX}
theorem star_l1 {e : Expr} {env : Env} (h : notStar e = true) : starEach [e] env = [(false, eval e env)] := star_one h
theorem isTup_ok {e : Expr} (h : isTup e = true) : ∃ es k p, e = .Tuple es k p := by
  cases e <;> first | exact ⟨_, _, _, rfl⟩ | cases h
theorem cI_ok (hc : RdOk T N c) (g : Good T N V X W) {tg it : Expr} {ms : Fr → M Src} (h9 : cI T c V tg it = some ms) : DI X W tg it ms := by
  have any : ∀ {it : Expr} {ms : Fr → M Src}, (c.E V it).map mSrc = some ms → DI X W tg it ms := fun h => by
    obtain ⟨m, hm, rfl⟩ := mp_ok h
    exact di_any (hc.E g hm)
  unfold cI at h9
  split at h9
  · rename_i x p args q
    cases eb : (glbB V x && T.fre x) with
    | false =>
      rw [eb] at h9
      exact any h9
    | true =>
      rw [eb] at h9
      obtain ⟨b1, b2⟩ := an eb
      obtain ⟨hG, hd⟩ := glb_ok g b1
      have hm := g.st.fre _ b2
      simp only at h9
      split at h9
      · have z : x = "range" := eq_of_beq (by assumption)
        subst z
        obtain ⟨h0, h8⟩ := gd_ok h9
        obtain ⟨m, h1, rfl⟩ := mp_ok h8
        exact di_rng1 hG hm (hc.E g h1) (star_l1 h0)
      · have z : x = "range" := eq_of_beq (by assumption)
        subst z
        obtain ⟨h0, h8⟩ := gd_ok h9
        obtain ⟨s1, s2⟩ := an h0
        obtain ⟨m, h1, h7⟩ := bd h8
        obtain ⟨m2, h2, rfl⟩ := mp_ok h7
        exact di_rng2 hG hm (hc.E g h1) (hc.E g h2) (by rw [star_one s1, star_l1 s2]) (star_l1 s2)
      · have z : x = "enumerate" := eq_of_beq (by assumption)
        subst z
        obtain ⟨h0, h8⟩ := gd_ok h9
        obtain ⟨s1, s2⟩ := an h0
        obtain ⟨m, h1, rfl⟩ := mp_ok h8
        obtain ⟨es, k, tp, rfl⟩ := isTup_ok s2
        exact di_enum hG hm (hc.E g h1) (star_l1 s1)
      · have z : x = "zip" := eq_of_beq (by assumption)
        subst z
        obtain ⟨h0, h8⟩ := gd_ok h9
        obtain ⟨s0, s3⟩ := an h0
        obtain ⟨s1, s2⟩ := an s0
        obtain ⟨m, h1, h7⟩ := bd h8
        obtain ⟨m2, h2, rfl⟩ := mp_ok h7
        obtain ⟨es, k, tp, rfl⟩ := isTup_ok s3
        exact di_zip hG hm (hc.E g h1) (hc.E g h2) (star_one s1) (star_l1 s2)
      · exact any h9
  · exact any h9
theorem cNames_ok (g : Good T N V X W) : ∀ {es : List Expr} {is : List Nat}, cNames N V es = some is → NamesAt X es is
  | [], is, h => by cases h; exact .nil
  | e :: es, is, h => by
    cases e with
    | Name x p =>
      obtain ⟨h0, h8⟩ := gd_ok h
      obtain ⟨i, hi, h7⟩ := bd h8
      obtain ⟨r, hr, rfl⟩ := mp_ok h7
      obtain ⟨l1, l2⟩ := loc_ok g h0
      exact .cons (by rw [g.nm]; exact ixOf_ok hi) l1 l2 (cNames_ok g hr)
    | _ => cases h
theorem cTg_ok (hcm : X.calm = true) (g : Good T N V X W) {e : Expr} {t : Tgt} (h : cTg N V e = some t) : PG X e (tBt X.K X.prog X.w t) := by
  have nd : X.N.Nodup := by rw [g.nm]; exact g.nd
  cases e with
  | Name x p =>
    obtain ⟨h0, h8⟩ := gd_ok h
    obtain ⟨i, hi, rfl⟩ := mp_ok h8
    obtain ⟨l1, l2⟩ := loc_ok g h0
    exact pg_name nd (by rw [g.nm]; exact ixOf_ok hi) l1 l2
  | Tuple es k p =>
    obtain ⟨is, hi, rfl⟩ := mp_ok h
    exact pg_bt_tup hcm nd (cNames_ok g hi)
  | _ => cases h
theorem cIfs_ok (hf : ∀ {e : Expr} {m : TM}, c.T V e = some m → DT X W e m) {es : List Expr} {t : TM} (h : cIfs (c.T V) es = some t) : DTs X W es t := by
  match es, h with
  | [], h => cases h; exact dts_nil
  | [e], h => exact dts_one (hf h)
  | _ :: _ :: _, h => cases h
theorem blkG_ok (g : Good T N V X W) {s : Scope} {iter : Expr} {asy : Int} {t : Tgt} (h : blkG N V s iter asy t = true) : V.calm = true ∧ asy = 0 ∧ notSet iter = true ∧ BlkOk X.N X.env.scope s (ownOf N s) ∧ ∀ i ∈ t.ix, i ∈ (ownOf N s).map (·.2) := by
  obtain ⟨h1, h⟩ := an h
  obtain ⟨h2, h⟩ := an h
  obtain ⟨h3, h⟩ := an h
  obtain ⟨h4, h5⟩ := an h
  refine ⟨h1, eq_of_beq h2, h3, by rw [g.nm, g.sc]; exact blkOk_by h4, fun i hi => of_decide_eq_true (List.all_eq_true.mp h5 i hi)⟩
theorem compL_ok (hc : RdOk T N c) (g : Good T N V X W) {elt tg iter : Expr} {ifs : List Expr} {asy : Int} {s : Scope} {p : Pos} {m : EM} (h : compL T N c V elt tg iter ifs asy s = some m) : DE X W (.ListComp elt [⟨tg, iter, ifs, asy⟩] s p) m := by
  obtain ⟨ms, h1, h⟩ := bd h
  obtain ⟨t, h2, h⟩ := bd h
  obtain ⟨tt, h3, h⟩ := bd h
  obtain ⟨te, h4, h⟩ := bd h
  obtain ⟨h5, h⟩ := gd_ok h
  cases h
  obtain ⟨k1, rfl, k3, k4, k5⟩ := blkG_ok g h5
  have hcm := (g.ok k1).1
  have gb := g.blk s
  exact de_lc hcm (by rw [g.nm]; exact g.nd) (cI_ok hc g h1) k4 k5 (fun s0 H C cl fp => cTg_ok (X := X.blk s0 H s (compEnvC s cl C X.env) fp) hcm (gb s0 H C cl fp) h2) (fun s0 H C cl fp => cIfs_ok (X := X.blk s0 H s (compEnvC s cl C X.env) fp) (fun h => hc.T (gb s0 H C cl fp) h) h3)
    (fun s0 H C cl fp => hc.E (gb s0 H C cl fp) h4) (fold_set k3)
theorem compD_ok (hc : RdOk T N c) (g : Good T N V X W) {kx vx tg iter : Expr} {ifs : List Expr} {asy : Int} {s : Scope} {p : Pos} {m : EM} (h : compD T N c V kx vx tg iter ifs asy s = some m) : DE X W (.DictComp kx vx [⟨tg, iter, ifs, asy⟩] s p) m := by
  obtain ⟨ms, h1, h⟩ := bd h
  obtain ⟨t, h2, h⟩ := bd h
  obtain ⟨tt, h3, h⟩ := bd h
  obtain ⟨tk, h6, h⟩ := bd h
  obtain ⟨te, h4, h⟩ := bd h
  obtain ⟨h5, h⟩ := gd_ok h
  cases h
  obtain ⟨k1, rfl, k3, k4, k5⟩ := blkG_ok g h5
  have hcm := (g.ok k1).1
  have gb := g.blk s
  exact de_dc hcm (by rw [g.nm]; exact g.nd) (cI_ok hc g h1) k4 k5 (fun s0 H C cl fp => cTg_ok (X := X.blk s0 H s (compEnvC s cl C X.env) fp) hcm (gb s0 H C cl fp) h2) (fun s0 H C cl fp => cIfs_ok (X := X.blk s0 H s (compEnvC s cl C X.env) fp) (fun h => hc.T (gb s0 H C cl fp) h) h3)
    (fun s0 H C cl fp => hc.E (gb s0 H C cl fp) h6) (fun s0 H C cl fp => hc.E (gb s0 H C cl fp) h4) (fold_set k3)
theorem cB_ok (hc : RdOk T N c) (g : Good T N V X W) {o : Option Expr} {b : BM} (h : cB c V o = some b) : DB X W o b := by
  cases o with
  | none => cases h; exact db_none
  | some e =>
    obtain ⟨m, hm, rfl⟩ := mp_ok h
    exact db_some (hc.E g hm)
theorem stepE_ok (hc : RdOk T N c) (g : Good T N V X W) {e : Expr} {m : EM} (h9 : stepE T N c V e = some m) : DE X W e m := by
  have hE : ∀ {e : Expr} {m : EM}, c.E V e = some m → DE X W e m := fun h => hc.E g h
  have hu := g.st.hu
  unfold stepE at h9
  split at h9
  · exact nameE_ok g h9
  · exact constE_ok h9
  · obtain ⟨f, h1, h8⟩ := bd h9
    obtain ⟨ma, h2, h7⟩ := bd h8
    obtain ⟨mb, h3, rfl⟩ := mp_ok h7
    exact de_bin (binG_ok h1) (hE h2) (hE h3)
  · obtain ⟨ma, h2, rfl⟩ := mp_ok h9
    exact de_un ud_neg (hE h2)
  · obtain ⟨ma, h2, rfl⟩ := mp_ok h9
    exact de_not (hE h2)
  · exact cBool_and hE h9
  · exact cBool_or hE h9
  · obtain ⟨mt, h1, h8⟩ := bd h9
    obtain ⟨ma, h2, h7⟩ := bd h8
    obtain ⟨mb, h3, rfl⟩ := mp_ok h7
    exact de_if (hc.T g h1) (hE h2) (hE h3)
  · obtain ⟨h0, h8⟩ := gd_ok h9
    obtain ⟨f, h1, h7⟩ := bd h8
    obtain ⟨ma, h2, h6⟩ := bd h7
    obtain ⟨mb, h3, rfl⟩ := mp_ok h6
    exact de_cmp (cmpG_ok g h1) (hE h2) (hE h3) (marks_set h0)
  · obtain ⟨h0, h8⟩ := gd_ok h9
    obtain ⟨f, h1, h7⟩ := bd h8
    obtain ⟨f', h1', h6⟩ := bd h7
    obtain ⟨ma, h2, h5⟩ := bd h6
    obtain ⟨mb, h3, h4⟩ := bd h5
    obtain ⟨md, h3', rfl⟩ := mp_ok h4
    exact de_chain (cmpG_ok g h1) (cmpG_ok g h1') (hE h2) (hE h3) (hE h3') (show behindInMarks _ _ = false from marks_set h0)
  · obtain ⟨t, h1, rfl⟩ := mp_ok h9
    exact de_tup (cA_ok hE h1).1
  · obtain ⟨t, h1, rfl⟩ := mp_ok h9
    exact de_lst (cA_ok hE h1).1
  · cases h9
    exact de_disp0
  · obtain ⟨h0, h8⟩ := gd_ok h9
    obtain ⟨a1, a2⟩ := an h0
    obtain ⟨a2, a3⟩ := an a2
    obtain ⟨prs, h1, rfl⟩ := mp_ok h8
    exact de_disp (cPs_ok hE h1) a1 (of_decide_eq_true a2) (fun z => nomatch z) (of_decide_eq_true a3)
  · obtain ⟨mo, h1, h8⟩ := bd h9
    obtain ⟨a, h2, h7⟩ := bd h8
    obtain ⟨b, h3, rfl⟩ := mp_ok h7
    exact de_slice (hE h1) (cB_ok hc g h2) (cB_ok hc g h3)
  · obtain ⟨h0, h8⟩ := gd_ok h9
    obtain ⟨mo, h1, h7⟩ := bd h8
    obtain ⟨mi, h2, rfl⟩ := mp_ok h7
    exact de_ix (by omega) (hE h1) (hE h2) (plain_ix h0)
  · obtain ⟨h0, h8⟩ := gd_ok h9
    obtain ⟨mo, h1, rfl⟩ := mp_ok h8
    exact de_fldX g.st.att g.st.exa (hE h1) (att_base h0)
  · exact callE_ok hc g h9
  · exact methE_ok hc g h9
  · exact compL_ok hc g h9
  · exact compD_ok hc g h9
  · cases h9
theorem stepT_ok (hc : RdOk T N c) (g : Good T N V X W) {e : Expr} {m : TM} (h9 : stepT c V e = some m) : DT X W e m := by
  have hE : ∀ {e : Expr} {m : EM}, c.E V e = some m → DE X W e m := fun h => hc.E g h
  have hT : ∀ {e : Expr} {m : TM}, c.T V e = some m → DT X W e m := fun h => hc.T g h
  unfold stepT at h9
  split at h9
  · obtain ⟨t, h1, rfl⟩ := mp_ok h9
    exact dt_not (hT h1)
  · exact (cTw_and hT h9).pt
  · exact (cTw_or hT h9).pt
  · obtain ⟨h0, h8⟩ := gd_ok h9
    obtain ⟨f, h1, h7⟩ := bd h8
    obtain ⟨ma, h2, h6⟩ := bd h7
    obtain ⟨mb, h3, rfl⟩ := mp_ok h6
    exact dt_cmp (cmpG_ok g h1) (hE h2) (hE h3) (marks_set h0)
  · obtain ⟨h0, h8⟩ := gd_ok h9
    obtain ⟨f, h1, h7⟩ := bd h8
    obtain ⟨f', h1', h6⟩ := bd h7
    obtain ⟨ma, h2, h5⟩ := bd h6
    obtain ⟨mb, h3, h4⟩ := bd h5
    obtain ⟨md, h3', rfl⟩ := mp_ok h4
    exact dt_chain (cmpG_ok g h1) (cmpG_ok g h1') (hE h2) (hE h3) (hE h3') (show behindInMarks _ _ = false from marks_set h0)
  · obtain ⟨h0, h8⟩ := gd_ok h9
    obtain ⟨m1, h1, rfl⟩ := mp_ok h8
    exact dt_truth (hE h1) (test_form h0)
theorem stepR_ok (hc : RdOk T N c) : RdOk T N (stepR T N c) := ⟨fun g h => stepE_ok hc g h, fun g h => stepT_ok hc g h⟩
theorem rdN_ok : ∀ n, RdOk T N (rdN T N n)
  | 0 => ⟨fun _ h => (nomatch h), fun _ h => (nomatch h)⟩
  | n + 1 => stepR_ok (rdN_ok n)
end
end Pi

/-! Pi27: from the text to readings: statements. -/
namespace Pi
open PyProof.Rows PySem L2 PySem.Spec

section
variable {X : Cx} {W : WX} {kx vx tg iter : Expr} {ifs : List Expr} {scope : Scope} {own : List (Str × Nat)} {pos spos py : Pos} {ms : Fr → M Src} {g : Tgt} {tt : TM} {tk tv : EM}
/-- name = {k: v for ..} on one line, the name a local -/
theorem ps_setDcT {i : Nat} {y : Str} {wi : TI} {gg : TG} {t1 : TT} {k1 v1 : TE} (hc : X.calm = true) (hN : X.N.Nodup) (hy : X.N[i]? = some y) (hyl : X.env.scope.names.lookup y = some .local)
    (hsw : swapsWith (.DictComp kx vx [⟨tg, iter, ifs, 0⟩] scope pos) (some (.Name y py)) spos.line X.env = pure true) (hi : PI X tg iter wi) (ok : BlkOk X.N X.env.scope scope own) (hg : InBlk X scope fun Y => PG Y tg gg) (ht : InBlk X scope fun Y => PTs Y ifs t1)
    (hk : InBlk X scope fun Y => PE Y kx k1) (he : InBlk X scope fun Y => PE Y vx v1) (hs : ∀ x, foldedSetIterable iter X.env x = pure x) :
    PS X (.Assign [.Name y py] (.DictComp kx vx [⟨tg, iter, ifs, 0⟩] scope pos) spos) (tAsg (tDc wi gg t1 k1 v1 (own.map (·.2))) (gName i)) := by
  refine ⟨fun pins s σ H D I h => ?_⟩
  rw [exec_Assign_Name_used _ _ _ _ hsw]
  refine wpAny_bind (wpAny_standAt (wpAny_bind ?_))
  show wpAny _ X.A (do let _ ← comprehension (.DictComp kx vx [⟨tg, iter, ifs, 0⟩] scope pos) scope X.env (firstIterPos [⟨tg, iter, ifs, 0⟩] pos) newDict false (eval iter X.env) (some (assign (.Name y py) X.env))) _ _ s
  have h0 : tDc wi gg t1 k1 v1 (own.map (·.2)) σ H (fun x H1 => gName i x σ H1 D.nx) := h
  refine wpAny_bind (thn (dc_core (Qf := fun _ s' => SP X pins D .next s') hc hN I hi ok hg ht hk he hs h0 fun L C s' m H' I' q hn f => ?_) fun _ s' hq => wpAny_pure (wpAny_pure hq))
  show wpAny _ _ (assign (.Name y py) X.env (.ref L)) _ _ _
  obtain ⟨f0, f1, f2, f3, f4, f5⟩ := f
  refine wpAny_assign_Name (store_ok2 (v := V.ref L) I' hN hy (.inl hyl) rfl (fun s2 I2 ⟨a, sb, ha⟩ => ⟨m, hn.sameBut sb ?_, fun h3 sb3 => ?_⟩) (.inr hyl))
  · rcases ha with z | z
    · rw [z]
      exact f1
    · exact fun e => f4 y a z e.symm
  · exact ⟨_, H', I2.turned (t' := s2.toks) (fun b o hb e => (sb3.2 b hb).trans e) f0 f1 f3 f4 f5, q⟩
theorem ds_setDc {i : Nat} {y : Str} (hy : X.N[i]? = some y) (hyl : X.env.scope.names.lookup y = some .local) (hsw : swapsWith (.DictComp kx vx [⟨tg, iter, ifs, 0⟩] scope pos) (some (.Name y py)) spos.line X.env = pure true)
    (hc : X.calm = true) (hN : X.N.Nodup) (hi : DI X W tg iter ms) (ok : BlkOk X.N X.env.scope scope own) (hv : ∀ i ∈ g.ix, i ∈ own.map (·.2)) (hg : InBlk X scope fun Y => PG Y tg (tBt X.K X.prog X.w g)) (ht : InBlk X scope fun Y => DTs Y W0 ifs tt)
    (hk : InBlk X scope fun Y => DE Y W0 kx tk) (he : InBlk X scope fun Y => DE Y W0 vx tv) (hs : ∀ x, foldedSetIterable iter X.env x = pure x) :
    DS X W (.Assign [.Name y py] (.DictComp kx vx [⟨tg, iter, ifs, 0⟩] scope pos) spos) (sAsg (eDc ms g tt tk tv (own.map (·.2))) (gNam i)) :=
  PS.of (ps_setDcT (t1 := tT X.K X.prog X.w W0 tt) (k1 := tE X.K X.prog X.w W0 tk) (v1 := tE X.K X.prog X.w W0 tv) hc hN hy hyl hsw hi ok hg ht hk he hs) fun E σ H h => dc_of (Q := fun v H' => E.nx (σ.set i (some v)) H') hv (gName_post h)
theorem sw_trueD {gs : List Comprehension} {y : Str} {l : Nat} {env : Env} (hk : env.scope.kind = .function) (hy : env.scope.names.lookup y = some .local) (hl : (py.line == pos.line) = true)
    (ha : (scope.names.any fun (n, k) => n == y && (k == .local || k == .cell)) = false) : swapsWith (.DictComp kx vx gs scope pos) (some (.Name y py)) l env = pure true := by
  have hb : env.blockKind = .function := by unfold Env.blockKind; rw [hk]; rfl
  have ky : env.kindOf y = some .local := hy
  unfold swapsWith
  simp only [hb, ky, ha, Expr.pos, hl]
  rfl
end

structure GoodS (T : Tb) (N : List Str) (V : Ev) (X : Cx) (W : WX) : Prop extends Good T N V X W where
  pass : V.calm = true → PassesOwn (model X.prog X.w) X.A X.env X.xe
  top : V.calm = true → X.stack = X.env :: X.outer ∧ X.env.frame = some X.env.locals
section
variable (T : Tb) (N : List Str) (c : Rd)
def cG : Nat → Ev → Expr → Option GM
  | 0, _, _ => none
  | n + 1, V, e => match e with
    | .Name x _ => gd (locB V x) ((ixOf N x).map gNam)
    | .Tuple es _ _ => gd (V.calm && es.all notStar) ((go n V es).map gTup)
    | .Subscript o i _ => gd (notSlice i) ((c.E V o).bind fun mo => (c.E V i).map (gPut mo))
    | _ => none
where go (n : Nat) (V : Ev) : List Expr → Option (List GM)
  | [] => some []
  | e :: es => (cG n V e).bind fun g => (go n V es).map (g :: ·)
def augG : Operator → Option (D → D → M D)
  | .Add => some iaddD
  | .Sub => some isubD
  | _ => none
def cSs (f : Stmt → Option SM) : List Stmt → Option SM
  | [] => some sNx
  | s :: r => (f s).bind fun a => match r with
    | [] => some a
    | s2 :: r2 => (cSs f (s2 :: r2)).map (sSeq a)
def swB (V : Ev) (x : Str) (py pos : Pos) (s : Scope) : Bool := decide (V.sc.kind = .function) && (decide (V.sc.names.lookup x = some .local) && ((py.line == pos.line) && !(s.names.any fun (n, k) => n == x && (k == .local || k == .cell))))
noncomputable def cSetN (V : Ev) (x : Str) (py : Pos) (e : Expr) : Option SM := match e with
  | .ListComp elt [⟨tg, iter, ifs, asy⟩] s pos => gd (swB V x py pos s) ((ixOf N x).bind fun i => (compL T N c V elt tg iter ifs asy s).map fun m => sAsg m (gNam i))
  | .DictComp kx vx [⟨tg, iter, ifs, asy⟩] s pos => gd (swB V x py pos s) ((ixOf N x).bind fun i => (compD T N c V kx vx tg iter ifs asy s).map fun m => sAsg m (gNam i))
  | e => gd (notComp e && locB V x) ((ixOf N x).bind fun i => (c.E V e).map fun m => sAsg m (gNam i))
/-- the slots of names that are locals, all on one line, no two the same -/
def parIx (V : Ev) : List Expr → Option (List Nat)
  | [] => some []
  | .Name x _ :: r => gd (decide (V.sc.names.lookup x = some .local)) ((ixOf N x).bind fun i => (parIx V r).bind fun t => gd (!t.contains i) (some (i :: t)))
  | _ => none
noncomputable def cAsg (V : Ev) (tg e : Expr) : Option SM := match tg with
  | .Name x py => cSetN T N c V x py e
  | .Attribute o f _ => gd (notComp e) ((c.E V o).bind fun mo => (c.E V e).map fun m => sFldPut T.att f mo m)
  | tg => gd (notComp e && (notStar tg && (notTup tg || notTupV e))) ((c.E V e).bind fun m => (cG N c 8 V tg).map fun g => sAsg m g)
noncomputable def stepS (S : Ev → Stmt → Option SM) (V : Ev) (st : Stmt) : Option SM := match st with
  | .Pass _ => some sNx
  | .Break _ => some sBk
  | .Continue _ => some sCt
  | .Expr e _ => gd (notComp e) ((c.E V e).map sExp)
  | .Return (some e) _ => (c.E V e).map sRet
  | .Return none _ => some sRetN
  | .If t a b _ => (c.T V t).bind fun mt => (cSs (S V) a).bind fun ma => (cSs (S V) b).map (sIf mt ma)
  | .While t b [] _ => gd V.calm ((c.T V t).bind fun mt => (cSs (S V) b).map (sWh mt))
  | .For tg it b [] _ => gd (V.calm && notSet it) ((cI T c V tg it).bind fun ms => (cG N c 8 V tg).bind fun g => (cSs (S V) b).map (sFor ms g))
  | .Assign [tg] e _ => cAsg T N c V tg e
  | .AugAssign (.Name x _) op e _ => gd (locB V x) ((ixOf N x).bind fun i => (augG op).bind fun g => (c.E V e).map (sAug i g))
  | .Raise (some (.Call (.Name x _) (e :: es) [] _)) none _ => gd (V.calm && glbB V x) ((T.exc x).bind fun q => (cA (c.E V) (e :: es)).map (sRaise x q.1 q.2))
  | .Try b (h₀ :: hds) [] [] _ => gd V.calm ((cSs (S V) b).bind fun mb => (cHs (h₀ :: hds)).map (sTry T.exs mb))
  | _ => none
where cHs : List ExceptHandler → Option (List Hd)
  | [] => some []
  | .ExceptHandler (some (.Name x _)) n (b₀ :: su) _ :: r => gd (glbB V x && (T.cls x && !(x == ("__name__" : Str)))) ((cSs (S ⟨V.sc, false, V.fk⟩) (b₀ :: su)).bind fun m => match n with
    | none => (cHs r).map (⟨x, none, m⟩ :: ·)
    | some y => gd (decide (V.sc.names.lookup y = some .local)) ((ixOf N y).bind fun i => (cHs r).map (⟨x, some i, m⟩ :: ·)))
  | _ => none
noncomputable def stN (R : Rd) : Nat → Ev → Stmt → Option SM
  | 0 => fun _ _ => none
  | n + 1 => stepS T N R (stN R n)
end
end Pi

/-! Pi28: the readings of statements are right. -/
namespace Pi
open PyProof.Rows PySem L2 PySem.Spec
section
variable {T : Tb} {N : List Str} {c : Rd} {V : Ev} {X : Cx} {W : WX}
theorem ndX (g : Good T N V X W) : X.N.Nodup := by rw [g.nm]; exact g.nd
theorem ixX (g : Good T N V X W) {x : Str} {i : Nat} (h : ixOf N x = some i) : X.N[i]? = some x := by rw [g.nm]; exact ixOf_ok h
theorem asg_sub {o i : Expr} {p : Pos} {env : Env} (h : notSlice i = true) (v : Value) : assign (.Subscript o i p) env v = (do
      let ov ← holding [v] (eval o env)
      let iv ← holding [v, ov] (eval i env)
      standAt p
      holding [v, ov, iv] (setItem ov iv v)
      release [v, ov, iv] []) := by
  cases i <;> first | rfl | cases h
mutual
theorem cG_ok (hc : RdOk T N c) (g : Good T N V X W) : ∀ (n : Nat) (e : Expr) (m : GM), cG N c n V e = some m → DG X e m
  | 0, e, m, h => by unfold cG at h; cases h
  | n + 1, e, m, h => by
    unfold cG at h
    split at h
    · obtain ⟨h0, h8⟩ := gd_ok h
      obtain ⟨i, hi, rfl⟩ := mp_ok h8
      obtain ⟨l1, l2⟩ := loc_ok g h0
      exact dg_name (ndX g) (ixX g hi) l1 l2
    · obtain ⟨h0, h8⟩ := gd_ok h
      obtain ⟨h1, h2⟩ := an h0
      obtain ⟨gs, hg, rfl⟩ := mp_ok h8
      obtain ⟨k1, k2⟩ := cGs_ok hc g n _ gs hg h2
      obtain ⟨z1, z2⟩ := asg_none (env := X.env) h2
      exact dg_tup (g.ok h1).1 k1 (by rw [z2, k2]) z1
    · obtain ⟨h0, h7⟩ := gd_ok h
      obtain ⟨mo, h1, h8⟩ := bd h7
      obtain ⟨mi, h2, rfl⟩ := mp_ok h8
      have hu := g.st.hu
      exact dg_put (by omega) (hc.E g.w0 h1) (hc.E g.w0 h2) (asg_sub h0)
    · cases h
theorem cGs_ok (hc : RdOk T N c) (g : Good T N V X W) : ∀ (n : Nat) (es : List Expr) (gs : List GM), cG.go N c n V es = some gs → es.all notStar = true → DGs X es gs ∧ es.length = gs.length
  | n, [], gs, h, _ => by
    unfold cG.go at h
    cases h
    exact ⟨dgs_nil, rfl⟩
  | n, e :: es, gs, h, hs => by
    unfold cG.go at h
    obtain ⟨m, h1, h8⟩ := bd h
    obtain ⟨r, h2, rfl⟩ := mp_ok h8
    obtain ⟨s1, s2⟩ := an (show (notStar e && es.all notStar) = true from by rw [← List.all_cons]; exact hs)
    obtain ⟨k1, k2⟩ := cGs_ok hc g n es r h2 s2
    exact ⟨dgs_cons (cG_ok hc g n e m h1) k1 (by rw [asg_one s1]; rfl), by rw [List.length_cons, List.length_cons, k2]⟩
end
theorem augG_ok {op : Operator} {f : D → D → M D} (h : augG op = some f) : IpD X op f := by
  cases op <;> first | (cases h; first | exact ip_d_add | exact ip_d_sub) | cases h
theorem cSs_ok {f : Stmt → Option SM} (hf : ∀ {st : Stmt} {m : SM}, f st = some m → DS X W st m) : ∀ {sts : List Stmt} {m : SM}, cSs f sts = some m → DSs X W sts m
  | [], m, h => by
    cases h
    exact dss_nil
  | [s], m, h => by
    obtain ⟨a, h1, h8⟩ := bd h
    cases h8
    exact dss_one (hf h1)
  | s :: s2 :: r, m, h => by
    obtain ⟨a, h1, h8⟩ := bd h
    obtain ⟨b, h2, rfl⟩ := mp_ok h8
    exact dss_cons (hf h1) (cSs_ok hf h2)
theorem swB_ok (g : Good T N V X W) {x : Str} {py pos : Pos} {s : Scope} (h : swB V x py pos s = true) : X.env.scope.kind = .function ∧ X.env.scope.names.lookup x = some .local ∧ (py.line == pos.line) = true ∧ (s.names.any fun (n, k) => n == x && (k == .local || k == .cell)) = false := by
  obtain ⟨h1, h⟩ := an h
  obtain ⟨h2, h⟩ := an h
  obtain ⟨h3, h4⟩ := an h
  rw [g.sc]
  exact ⟨of_decide_eq_true h1, of_decide_eq_true h2, h3, nt h4⟩
theorem cSetN_ok (hc : RdOk T N c) (g : Good T N V X W) {x : Str} {py pos : Pos} {e : Expr} {m : SM} (h : cSetN T N c V x py e = some m) : DS X W (.Assign [.Name x py] e pos) m := by
  unfold cSetN at h
  split at h
  · rename_i sc _
    obtain ⟨h0, h8⟩ := gd_ok h
    obtain ⟨i, hi, h7⟩ := bd h8
    obtain ⟨m1, hm, rfl⟩ := mp_ok h7
    obtain ⟨z1, z2, z3, z4⟩ := swB_ok g h0
    obtain ⟨ms, h1, h6⟩ := bd hm
    obtain ⟨t, h2, h5⟩ := bd h6
    obtain ⟨tt, h3, h6⟩ := bd h5
    obtain ⟨te, h4, h5⟩ := bd h6
    obtain ⟨hb, h7⟩ := gd_ok h5
    cases h7
    obtain ⟨k1, rfl, k3, k4, k5⟩ := blkG_ok g hb
    have hcm := (g.ok k1).1
    have gb := g.blk
    exact ds_setLc (ixX g hi) z2 (sw_true z1 z2 z3 z4) hcm (ndX g) (cI_ok hc g h1) k4 k5 (fun s0 H C cl fp => cTg_ok (X := X.blk s0 H sc (compEnvC sc cl C X.env) fp) hcm (gb sc s0 H C cl fp) h2) (fun s0 H C cl fp => cIfs_ok (X := X.blk s0 H sc (compEnvC sc cl C X.env) fp) (fun h => hc.T (gb sc s0 H C cl fp) h) h3)
      (fun s0 H C cl fp => hc.E (gb sc s0 H C cl fp) h4) (fold_set k3)
  · rename_i sc _
    obtain ⟨h0, h8⟩ := gd_ok h
    obtain ⟨i, hi, h7⟩ := bd h8
    obtain ⟨m1, hm, rfl⟩ := mp_ok h7
    obtain ⟨z1, z2, z3, z4⟩ := swB_ok g h0
    obtain ⟨ms, h1, h6⟩ := bd hm
    obtain ⟨t, h2, h5⟩ := bd h6
    obtain ⟨tt, h3, h6⟩ := bd h5
    obtain ⟨tk, hk, h5⟩ := bd h6
    obtain ⟨te, h4, h6⟩ := bd h5
    obtain ⟨hb, h7⟩ := gd_ok h6
    cases h7
    obtain ⟨k1, rfl, k3, k4, k5⟩ := blkG_ok g hb
    have hcm := (g.ok k1).1
    have gb := g.blk
    exact ds_setDc (ixX g hi) z2 (sw_trueD z1 z2 z3 z4) hcm (ndX g) (cI_ok hc g h1) k4 k5 (fun s0 H C cl fp => cTg_ok (X := X.blk s0 H sc (compEnvC sc cl C X.env) fp) hcm (gb sc s0 H C cl fp) h2) (fun s0 H C cl fp => cIfs_ok (X := X.blk s0 H sc (compEnvC sc cl C X.env) fp) (fun h => hc.T (gb sc s0 H C cl fp) h) h3)
      (fun s0 H C cl fp => hc.E (gb sc s0 H C cl fp) hk) (fun s0 H C cl fp => hc.E (gb sc s0 H C cl fp) h4) (fold_set k3)
  · obtain ⟨h0, h8⟩ := gd_ok h
    obtain ⟨h1, h2⟩ := an h0
    obtain ⟨i, hi, h7⟩ := bd h8
    obtain ⟨m1, hm, rfl⟩ := mp_ok h7
    obtain ⟨l1, l2⟩ := loc_ok g h2
    exact ds_set (ndX g) (ixX g hi) l1 (hc.E g hm) (sw_false h1) l2
theorem cAsg_ok (hc : RdOk T N c) (g : Good T N V X W) {tg e : Expr} {pos : Pos} {m : SM} (h : cAsg T N c V tg e = some m) : DS X W (.Assign [tg] e pos) m := by
  unfold cAsg at h
  split at h
  · exact cSetN_ok hc g h
  · obtain ⟨h0, h8⟩ := gd_ok h
    obtain ⟨mo, h1, h7⟩ := bd h8
    obtain ⟨me, h2, rfl⟩ := mp_ok h7
    exact ds_fld g.st.att (hc.E g h1) (hc.E g h2) (sw_false h0)
  · obtain ⟨h0, h8⟩ := gd_ok h
    obtain ⟨h1, h0⟩ := an h0
    obtain ⟨h2, h3⟩ := an h0
    obtain ⟨me, h4, h7⟩ := bd h8
    obtain ⟨gg, h5, rfl⟩ := mp_ok h7
    exact ds_asg (hc.E g h4) (cG_ok hc g 8 _ _ h5) (sw_false h1) (stores_none (Bool.or_eq_true_iff.mp h3)) (by rw [asg_one h2]; rfl)
/-! ### statements -/
def StOk (T : Tb) (N : List Str) (S : Ev → Stmt → Option SM) : Prop := ∀ {V : Ev} {X : Cx} {W : WX} {st : Stmt} {m : SM}, GoodS T N V X W → S V st = some m → DS X W st m
theorem GoodS.tr (g : GoodS T N V X W) {W1 : WX} {pn : List (Addr × Obj)} {xe : Value → Shared → Prop} (tk : Takes (X.tr pn xe) W1) (hp : PassesOwn (model X.prog X.w) X.A X.env xe) : GoodS T N V (X.tr pn xe) W1 :=
  ⟨⟨⟨g.st.att, g.st.exa, g.st.sub, g.st.exs, g.st.glb, g.st.cls, g.st.fre, g.st.hu, g.st.gd⟩, fun h => ⟨(g.ok h).1, ⟨(g.ok h).2.fns, (g.ok h).2.mkr, (g.ok h).2.mts, (g.ok h).2.exc, (g.ok h).2.exc0⟩⟩, tk, g.sc, g.nm, g.nd, g.fn⟩, fun _ => hp, g.top⟩
theorem GoodS.su (g : GoodS T N V X W) (a : Addr) (pn : List (Addr × Obj)) : GoodS T N ⟨V.sc, false, V.fk⟩ (X.suite a pn) W0 :=
  ⟨⟨⟨g.st.att, g.st.exa, g.st.sub, g.st.exs, g.st.glb, g.st.cls, g.st.fre, g.st.hu, g.st.gd⟩, fun h => absurd h Bool.false_ne_true, takes_none5, g.sc, g.nm, g.nd, g.fn⟩, fun h => absurd h Bool.false_ne_true, fun h => absurd h Bool.false_ne_true⟩
theorem cHs_ok {S : Ev → Stmt → Option SM} (hS : StOk T N S) (g : GoodS T N V X W) : ∀ {hds : List ExceptHandler} {l : List Hd}, stepS.cHs T N S V hds = some l → HdD X hds l
  | [], l, h => by
    unfold stepS.cHs at h
    cases h
    exact .nil
  | hd :: r, l, h => by
    unfold stepS.cHs at h
    split at h
    · rename_i e1
      cases e1
    · rename_i x p n b₀ su hp r' e1
      cases e1
      obtain ⟨h0, h8⟩ := gd_ok h
      obtain ⟨m, h1, h7⟩ := bd h8
      have hs : ∀ (a : Addr) (pn : List (Addr × Obj)), DSs (X.suite a pn) W0 (b₀ :: su) m := fun a pn => cSs_ok (fun h => hS (g.su a pn) h) h1
      split at h7
      · obtain ⟨t, ht, rfl⟩ := mp_ok h7
        exact .cons (clNm_of g.toGood h0) True.intro hs (cHs_ok hS g ht)
      · obtain ⟨h2, h6⟩ := gd_ok h7
        obtain ⟨i, hi, h5⟩ := bd h6
        obtain ⟨t, ht, rfl⟩ := mp_ok h5
        refine .cons (clNm_of g.toGood h0) ⟨ixX g.toGood hi, ?_⟩ hs (cHs_ok hS g ht)
        show X.env.scope.names.lookup _ = _
        rw [g.sc]
        exact of_decide_eq_true h2
    · cases h
theorem stepS_ok (hc : RdOk T N c) {S : Ev → Stmt → Option SM} (hS : StOk T N S) : StOk T N (stepS T N c S) := by
  intro V X W st m g h9
  have g0 := g.toGood
  have hSs : ∀ {sts : List Stmt} {m : SM}, cSs (S V) sts = some m → DSs X W sts m := fun h => cSs_ok (fun h => hS g h) h
  unfold stepS at h9
  split at h9
  · cases h9; exact ds_pass
  · cases h9; exact ds_break
  · cases h9; exact ds_continue
  · obtain ⟨h0, h8⟩ := gd_ok h9
    obtain ⟨me, h1, rfl⟩ := mp_ok h8
    exact ds_expr (hc.E g0 h1) (sw_false h0)
  · obtain ⟨me, h1, rfl⟩ := mp_ok h9
    exact ds_ret (hc.E g0 h1)
  · cases h9; exact ds_retN
  · obtain ⟨mt, h1, h8⟩ := bd h9
    obtain ⟨ma, h2, h7⟩ := bd h8
    obtain ⟨mb, h3, rfl⟩ := mp_ok h7
    exact ds_if (hc.T g0 h1) (hSs h2) (hSs h3)
  · obtain ⟨h0, h8⟩ := gd_ok h9
    obtain ⟨mt, h1, h7⟩ := bd h8
    obtain ⟨mb, h3, rfl⟩ := mp_ok h7
    exact ds_while (g.pass h0) (hc.T g0 h1) (hSs h3)
  · obtain ⟨h0, h8⟩ := gd_ok h9
    obtain ⟨k0, k1⟩ := an h0
    obtain ⟨ms, h1, h7⟩ := bd h8
    obtain ⟨gg, h2, h6⟩ := bd h7
    obtain ⟨mb, h3, rfl⟩ := mp_ok h6
    exact ds_for (g.pass k0) (g.ok k0).1 (cI_ok hc g0 h1) (cG_ok hc g0 8 _ _ h2) (hSs h3) (fold_set k1)
  · exact cAsg_ok hc g0 h9
  · obtain ⟨h0, h8⟩ := gd_ok h9
    obtain ⟨i, hi, h7⟩ := bd h8
    obtain ⟨f, hf, h6⟩ := bd h7
    obtain ⟨me, h1, rfl⟩ := mp_ok h6
    obtain ⟨l1, l2⟩ := loc_ok g0 h0
    exact ds_aug (ndX g0) (ixX g0 hi) l1 (hc.E g0 h1) (augG_ok hf) l2
  · obtain ⟨h0, h8⟩ := gd_ok h9
    obtain ⟨k0, k1⟩ := an h0
    obtain ⟨q, hq, h7⟩ := bd h8
    obtain ⟨t, ht, rfl⟩ := mp_ok h7
    obtain ⟨ha, hl, hs⟩ := cA_ok (fun h => hc.E g0 h) ht
    obtain ⟨hG, hd⟩ := glb_ok g0 k1
    have s0 := hs
    rw [List.all_cons] at s0
    obtain ⟨s1, s2⟩ := an s0
    obtain ⟨np, fs⟩ := q
    exact ds_raise (g.ok k0).1 g.tk ((g.ok k0).2.exc _ _ _ hq) hG ha hd (star_one s1) (back_any (star_none s2))
  · obtain ⟨h0, h8⟩ := gd_ok h9
    obtain ⟨mb, h1, h7⟩ := bd h8
    obtain ⟨l, h2, rfl⟩ := mp_ok h7
    obtain ⟨t1, t2⟩ := g.top h0
    exact ds_try g.st.exs (ndX g0) t1 t2 g.tk (fun W1 pn xe tk hp => cSs_ok (fun h => hS (g.tr tk hp) h) h1) (cHs_ok hS g h2)
  · cases h9
theorem stN_ok (hc : RdOk T N c) : ∀ n, StOk T N (stN T N c n)
  | 0 => fun _ h => nomatch h
  | n + 1 => stepS_ok hc (stN_ok hc n)
end
end Pi

/-! Pi29: how arguments are bound. -/
namespace Pi
open PyProof.Rows PySem L2 PySem.Spec

theorem look_zip : ∀ {ps : List Str} {us : List Value} {more : List (Str × Value)}, ps.Nodup → us.length = ps.length → ps.filterMap (fun n => ((ps.zip us ++ more).lookup n).map (n, ·)) = ps.zip us
  | [], us, more, _, _ => by simp
  | p :: ps, [], more, _, h => by cases h
  | p :: ps, u :: us, more, nd, h => by
    obtain ⟨n1, n2⟩ := List.nodup_cons.mp nd
    have e1 : ((p :: ps).zip (u :: us) ++ more).lookup p = some u := by simp
    rw [List.filterMap_cons, e1]
    show (p, u) :: _ = _
    rw [List.zip_cons_cons]
    congr 1
    have ih := look_zip (more := more) n2 (Nat.succ.inj h)
    refine Eq.trans ?_ ih
    have cg : ∀ (l : List Str) (f g : Str → Option (Str × Value)), (∀ n ∈ l, f n = g n) → l.filterMap f = l.filterMap g := by
      intro l f g h
      induction l with
      | nil => rfl
      | cons a l ih => rw [List.filterMap_cons, List.filterMap_cons, h a List.mem_cons_self, ih fun n hn => h n (List.mem_cons_of_mem _ hn)]
    apply cg
    intro n hn
    have ne : (n == p) = false := beq_eq_false_iff_ne.mpr fun e => n1 (e ▸ hn)
    show (((p, u) :: (ps.zip us ++ more)).lookup n).map (n, ·) = _
    rw [List.lookup_cons, ne]
theorem look_some {ps : List Str} {us : List Value} : us.length = ps.length → ∀ n ∈ ps, ((ps.zip us).lookup n).isNone = false := by
  induction ps generalizing us with
  | nil => intro _ n h; simp at h
  | cons p ps ih =>
    intro hl n hn
    cases us with
    | nil => cases hl
    | cons u us =>
      rw [List.zip_cons_cons, List.lookup_cons]
      cases e : (n == p) with
      | true => rfl
      | false =>
        refine ih (Nat.succ.inj hl) n ?_
        rcases List.mem_cons.mp hn with z | z
        · rw [z] at e
          simp at e
        · exact z
theorem bind_plain {x qual : Str} {as : List Arg} {body : List Stmt} {scope : Scope} {kV doc pm cdv ct : Value} {an : Option Addr} {us : List Value} (nd : (as.map (·.arg)).Nodup) (hl : us.length = (as.map (·.arg)).length) :
    bindArgs (PySem.W.fnOf x qual ⟨[], as, none, [], [], none, []⟩ body scope .none kV doc pm an cdv ct) ⟨us, []⟩ = pure ((as.map (·.arg)).zip us) := by
  have e1 := look_zip (more := []) nd hl
  rw [List.append_nil] at e1
  have e2 : ((as.map (·.arg)).filter fun n => (((as.map (·.arg)).zip us).lookup n).isNone) = [] := by
    rw [List.filter_eq_nil_iff]
    intro n hn
    rw [look_some hl n hn]
    simp
  have e3 : seqItems? Value.none = pure none := rfl
  unfold bindArgs
  simp only [PySem.W.fnOf, List.map_nil, List.nil_append, e3]
  revert e1 e2 hl
  generalize as.map (·.arg) = ps
  intro hl e1 e2
  have e4 : (ps.length < us.length) = False := by simp [hl]
  simp [e1, e2, e4, hl]
end Pi

/-! Pi30: what the written part must say, as tests. -/
namespace Pi
open PyProof.Rows PySem L2 PySem.Spec

def exM : List Value → Addr → Bool
  | .ref C' :: bm, C => decide (C' = C) && PySem.HandSPX.refsVE bm
  | _, _ => false
def exN : List (Option Value) → Bool
  | [_, _, _, _, some (.builtin n), _] => decide (n = "ValueError.__new__")
  | _ => false
def oexB (K : PySem.W.Frag) (C : Addr) : Bool := (match K.lookup C with
  | some ⟨.type t, _, .cls cd, sl⟩ => decide (t = "type") && (exM cd.mro C && (exN sl.toList && (cd.hasDict && !cd.hasDel)))
  | _ => false) && (decide (PySem.W.findIn K (.ref C) "__setattr__" = some (some (.builtin "object.__setattr__"))) && (decide (PySem.W.subIn K (.ref C) (.type "BaseException") = some true) &&
    (decide (PySem.W.typeIn K (.ref C) = some (.type "type")) && PySem.W.keepIn K (.ref C))))
theorem oexB_ok {K : PySem.W.Frag} {C : Addr} (h : oexB K C = true) : OexC K C := by
  obtain ⟨h0, h⟩ := an h
  obtain ⟨h1, h⟩ := an h
  obtain ⟨h2, h⟩ := an h
  obtain ⟨h3, h4⟩ := an h
  refine ⟨?_, of_decide_eq_true h1, of_decide_eq_true h2, of_decide_eq_true h3, h4⟩
  split at h0
  · rename_i t dd cd sl ho
    obtain ⟨z1, h0⟩ := an h0
    obtain ⟨z2, h0⟩ := an h0
    obtain ⟨z3, h0⟩ := an h0
    obtain ⟨z4, z5⟩ := an h0
    have z1 := of_decide_eq_true z1
    subst z1
    obtain ⟨nm, bs, mro, ns, qn, hd, sn, sub, ab, col, del⟩ := cd
    simp only at z2 z4 z5
    unfold exM at z2
    split at z2
    · rename_i C' bm
      obtain ⟨w1, w2⟩ := an z2
      have w1 := of_decide_eq_true w1
      subst w1
      unfold exN at z3
      split at z3
      · rename_i k0 k1 k2 k3 n k5 hs
        have z3 := of_decide_eq_true z3
        subst z3
        have z5 := nt z5
        subst z4 z5
        have e : sl = #[k0, k1, k2, k3, some (.builtin "ValueError.__new__"), k5] := by
          rw [← Array.toArray_toList (xs := sl), hs]
        subst e
        exact ⟨_, _, _, _, _, _, _, _, _, _, _, _, _, _, _, ho, w2⟩
      · cases z3
    · cases z2
  · cases h0
def excB (K : PySem.W.Frag) (C : Addr) : Bool := decide (PySem.W.findIn K (.ref C) "__getattribute__" = some (some (.builtin "BaseException.__getattribute__"))) && (decide (PySem.W.findIn K (.ref C) "__getattr__" = some none) && (decide (PySem.W.subIn K (.ref C) (.type "BaseException") = some true) &&
  (PySem.W.hasDictIn K C && (decide (PySem.W.findIn K (.ref C) "__class__" = some (some (.builtin "object.__class__"))) && (decide (PySem.W.specialIn K (.builtin "object.__class__") "__get__" = some (some (.builtin "getset_descriptor.__get__"))) &&
    (decide (PySem.W.takesIn K (.builtin "object.__class__") = some true) && decide (PySem.W.mroIn K C (.type "object") = some true)))))))
theorem excB_ok {K : PySem.W.Frag} {C : Addr} (h : excB K C = true) : ExcC K C := by
  obtain ⟨h1, h⟩ := an h
  obtain ⟨h2, h⟩ := an h
  obtain ⟨h3, h⟩ := an h
  obtain ⟨h4, h⟩ := an h
  obtain ⟨h5, h⟩ := an h
  obtain ⟨h6, h⟩ := an h
  obtain ⟨h7, h8⟩ := an h
  exact ⟨of_decide_eq_true h1, of_decide_eq_true h2, of_decide_eq_true h3, h4, of_decide_eq_true h5, of_decide_eq_true h6, of_decide_eq_true h7, of_decide_eq_true h8⟩
def insB (K : PySem.W.Frag) (x : Str) : Bool := (He.Fa.cls x).ok K && (decide (PySem.W.findIn K (.ref (He.ga K x)) "__class__" = some (some (.builtin "object.__class__"))) && (decide (PySem.W.specialIn K (.builtin "object.__class__") "__get__" = some (some (.builtin "getset_descriptor.__get__"))) &&
    (decide (PySem.W.takesIn K (.builtin "object.__class__") = some true) && decide (PySem.W.mroIn K (He.ga K x) (.type "object") = some true))))
theorem insB_ok {K : PySem.W.Frag} {x : Str} (h : insB K x = true) : InsC K (He.ga K x) := by
  obtain ⟨h4, h⟩ := an h
  obtain ⟨h5, h⟩ := an h
  obtain ⟨h6, h⟩ := an h
  obtain ⟨h7, h8⟩ := an h
  exact ⟨He.cls_ok h4, of_decide_eq_true h5, of_decide_eq_true h6, of_decide_eq_true h7, of_decide_eq_true h8⟩
def tyB (K : PySem.W.Frag) : Ty → Bool
  | .bt _ => true
  | .ins c => insB K c
  | .exc c => excB K (He.ga K c)
theorem tyB_ok {K : PySem.W.Frag} {t : Ty} (h : tyB K t = true) : TyOk K t := by
  cases t with
  | bt n => exact True.intro
  | ins c => exact insB_ok h
  | exc c => exact excB_ok h
/-! a constant of the module: the value that stands for d -/
mutual
def vOf (K : PySem.W.Frag) : D → Value → Bool
  | .non, .none => true
  | .bl b, .bool c => b == c
  | .int i, .int j _ => decide (i = j)
  | .str x, .str y _ => decide (x = y)
  | .tup ds, .ref a => (match K.lookup a with
    | some ⟨.type t, none, .seq its _, _⟩ => decide (t = "tuple") && (decide (its.size ≤ sizeLine) && vsOf K ds its.toList)
    | _ => false)
  | _, _ => false
def vsOf (K : PySem.W.Frag) : List D → List Value → Bool
  | [], [] => true
  | d :: ds, v :: vs => vOf K d v && vsOf K ds vs
  | _, _ => false
end
mutual
theorem vOf_ok {K : PySem.W.Frag} : ∀ (d : D) (u : Value), vOf K d u = true → ∃ v, RelV v u ∧ ∀ μ H, DV K μ H d v
  | .non, u, h => by
    cases u with
    | none => exact ⟨.non, rfl, fun _ _ => rfl⟩
    | _ => unfold vOf at h; cases h
  | .bl b, u, h => by
    cases u with
    | bool c =>
      unfold vOf at h
      exact ⟨.bl b, by rw [eq_of_beq h]; rfl, fun _ _ => rfl⟩
    | _ => unfold vOf at h; cases h
  | .int i, u, h => by
    cases u with
    | int j t =>
      unfold vOf at h
      exact ⟨.int i, ⟨t, by rw [of_decide_eq_true h]⟩, fun _ _ => rfl⟩
    | _ => unfold vOf at h; cases h
  | .str i, u, h => by
    cases u with
    | str j t =>
      unfold vOf at h
      exact ⟨.str i, ⟨t, by rw [of_decide_eq_true h]⟩, fun _ _ => rfl⟩
    | _ => unfold vOf at h; cases h
  | .tup ds, u, h => by
    cases u with
    | ref a =>
      unfold vOf at h
      split at h
      · rename_i t its n sl ho
        obtain ⟨h1, h⟩ := an h
        obtain ⟨h2, h3⟩ := an h
        have h1 := of_decide_eq_true h1
        subst h1
        obtain ⟨vs, r, dv⟩ := vsOf_ok ds _ h3
        exact ⟨.ref a, rfl, fun μ H => ⟨a, vs, rfl, .inr ⟨_, its, n, ho, rfl, rfl, rfl, of_decide_eq_true h2, r⟩, dv μ H⟩⟩
      · cases h
    | _ => unfold vOf at h; cases h
  | .frl _, u, h => by cases u <;> (unfold vOf at h; cases h)
  | .exv _ _ _, u, h => by cases u <;> (unfold vOf at h; cases h)
  | .ref _, u, h => by cases u <;> (unfold vOf at h; cases h)
theorem vsOf_ok {K : PySem.W.Frag} : ∀ (ds : List D) (us : List Value), vsOf K ds us = true → ∃ vs, Vals vs us ∧ ∀ μ H, DVs K μ H ds vs
  | [], [], h => ⟨[], .nil, fun _ _ => rfl⟩
  | d :: ds, u :: us, h => by
    unfold vsOf at h
    obtain ⟨h1, h2⟩ := an h
    obtain ⟨v, r1, d1⟩ := vOf_ok d u h1
    obtain ⟨vs, r2, d2⟩ := vsOf_ok ds us h2
    exact ⟨v :: vs, .cons r1 r2, fun μ H => ⟨v, vs, rfl, d1 μ H, d2 μ H⟩⟩
  | [], _ :: _, h => by unfold vsOf at h; cases h
  | _ :: _, [], h => by unfold vsOf at h; cases h
end
end Pi

/-! Pi31: a whole text by its functions. -/
namespace Pi
open PyProof.Rows PySem L2 PySem.Spec

abbrev Loc2 := Str × Option Str
abbrev FEnv := Loc2 → FM
/-- a function: where it stands, its text, its names (parameters first), how many parameters, what it does -/
structure Fd where
  at_ : Loc2
  d : He.DefD
  N : List Str
  np : Nat
  body : FEnv → SM
/-- an exception's __init__ -/
structure Xd where
  x : Str
  d : He.DefD
  N : List Str
  np : Nat
  fs : List (Str × Nat)
structure Ld where
  fs : List Fd
  xs : List Xd
  own : List Str
  mth : List (Str × Str × Nat)
  att : List (Str × Str)
  exa : List (Str × Str)
  sub : List (Ty × Str × Bool)
  exs : List (Str × Str × Bool)
  exc0 : List Str
  glb : List (Str × D)
  cls : List Str
  fre : List Str
def runB (L : Nat) (b : SM) : FM := fun ds A => match b (ds.map some ++ List.replicate (L - ds.length) none) A with
  | .nx _ A' => .ok .non A'
  | .rt d A' => .ok d A'
  | .ex c fs _ A' => .ex c fs A'
  | _ => .no
def Ld.get (L : Ld) (k : Loc2) : Option Fd := L.fs.find? fun f => decide (f.at_ = k)
def Ld.den (L : Ld) : Nat → FEnv
  | 0, _ => fun _ => noM
  | n + 1, k => match L.get k with
    | some f => runB f.N.length (f.body (L.den n))
    | none => fun _ => noM
def Ld.tb (L : Ld) (F : FEnv) : Tb where
  fns := fun x m => match L.get (x, none) with
    | some f => gd (decide (m = f.np)) (some (F (x, none)))
    | none => none
  mkr := fun x m => gd (decide (x ∈ L.own)) (match L.get (x, some "__init__") with
    | some f => gd (decide (m + 1 = f.np)) (some (F (x, some "__init__")))
    | none => none)
  mts := fun c m => (L.mth.find? fun e => decide (e.1 = c ∧ e.2.1 = m)).map fun e => (e.2.2, F (c, some m))
  att := fun c f => decide ((c, f) ∈ L.att)
  exa := fun c f => decide ((c, f) ∈ L.exa)
  sub := fun t c => (L.sub.find? fun e => decide (e.1 = t ∧ e.2.1 = c)).map (·.2.2)
  exs := fun c h => (L.exs.find? fun e => decide (e.1 = c ∧ e.2.1 = h)).map (·.2.2)
  exc := fun x => (L.xs.find? fun e => decide (e.x = x)).map fun e => (e.np, e.fs)
  exc0 := fun x => decide (x ∈ L.exc0)
  glb := fun x => (L.glb.find? fun e => decide (e.1 = x)).map (·.2)
  cls := fun x => decide (x ∈ L.cls)
  fre := fun x => decide (x ∈ L.fre)
def anI : Str := "__init__"
def Ld.ok (L : Ld) (K : PySem.W.Frag) : Bool :=
  (L.fs.all fun f => match f.at_ with
    | (x, none) => (He.Fa.glo x).ok K
    | (c, some m) => (He.Fa.meth c m).ok K) &&
  ((L.own.all fun c => (He.Fa.cls c).ok K && ((He.Fa.mkr c).ok K && (He.Fa.glo c).ok K)) &&
  ((L.att.all fun p => (He.Fa.cls p.1).ok K && (He.Fa.noat p.1 p.2).ok K) &&
  ((L.exa.all fun p => xfB K (He.ga K p.1) && (He.Fa.noat p.1 p.2).ok K) &&
  ((L.sub.all fun p => decide (PySem.W.kitOne K (tyV K p.1) (clV K p.2.1) = some p.2.2) && tyB K p.1) &&
  ((L.exs.all fun p => decide (PySem.W.exmOne K (.ref (He.ga K p.1)) (clV K p.2.1) = some p.2.2)) &&
  ((L.xs.all fun p => oexB K (He.ga K p.x) && ((He.Fa.glo p.x).ok K && ((p.fs.all fun q => (He.Fa.noat p.x q.1).ok K) && (decide (PySem.W.findIn K (.ref (He.ga K p.x)) "__init__" = some (some (.ref (He.fAd K (p.x, some anI))))) && decide (PySem.W.typeIn K (.ref (He.fAd K (p.x, some anI))) = some (.type "function")))))) &&
  ((L.exc0.all fun x => (He.Fa.exc x).ok K && (He.Fa.glo x).ok K) &&
  ((L.glb.all fun p => match PySem.W.nsIn K mainGlobals p.1 with
    | some (some u) => vOf K p.2 u
    | _ => false) &&
  ((L.cls.all fun x => match btNm x with
    | some n => (He.Fa.free x).ok K && decide (bootBuiltins x = some (.type n))
    | none => (He.Fa.glo x).ok K) &&
  (L.fre.all fun x => (He.Fa.free x).ok K))))))))))
/-- the shape of parameters, of scopes -/
def parB (p : Arguments) (N : List Str) (np : Nat) : Bool := match p with
  | ⟨[], as, none, [], [], none, []⟩ => decide (as.map (·.arg) = N.take np)
  | _ => false
def scB (N : List Str) (np : Nat) (sc : Scope) : Bool := decide (sc.kind = .function) && (!sc.isCoroutine && (!sc.isGenerator && (decide N.Nodup && (decide (np ≤ N.length) && (((N.take np).all fun x => decide (sc.names.lookup x = some .local ∨ sc.names.lookup x = some .cell)) && (sc.names.all fun y => decide (y.2 ≠ .free)))))))
theorem scB_ok {N : List Str} {np : Nat} {sc : Scope} (h : scB N np sc = true) : FnScope N (N.take np) sc ∧ np ≤ N.length := by
  obtain ⟨h1, h⟩ := an h
  obtain ⟨h2, h⟩ := an h
  obtain ⟨h3, h⟩ := an h
  obtain ⟨h4, h⟩ := an h
  obtain ⟨h5, h⟩ := an h
  obtain ⟨h6, h7⟩ := an h
  have h5 := of_decide_eq_true h5
  refine ⟨⟨of_decide_eq_true h1, nt h2, nt h3, of_decide_eq_true h4, ?_, fun x hx => of_decide_eq_true (List.all_eq_true.mp h6 x hx), fun y hy => of_decide_eq_true (List.all_eq_true.mp h7 y hy)⟩, h5⟩
  rw [List.length_take, Nat.min_eq_left h5]
def initB : List Str → Scope → List Stmt → Option (List (Str × Nat))
  | _, _, [] => some []
  | N, sc, .Assign [.Attribute (.Name sf _) f _] (.Name x _) _ :: r => gd (decide (N[0]? = some sf) && (decide (sc.names.lookup sf = some .local) && (decide (sc.names.lookup x = some .local) && ((!(sf == ("__debug__" : Str)) && !(sf == ("__classdict__" : Str))) && (!(x == ("__debug__" : Str)) && !(x == ("__classdict__" : Str)))))))
    ((ixOf N x).bind fun i => (initB N sc r).map ((f, i) :: ·))
  | _, _, _ => none
theorem initB_ok {X : Cx} : ∀ {sts : List Stmt} {fs : List (Str × Nat)}, initB X.N X.env.scope sts = some fs → InitBody X sts fs
  | [], fs, h => by
    unfold initB at h
    cases h
    exact .nil
  | st :: r, fs, h => by
    unfold initB at h
    split at h
    · rename_i e
      cases e
    · rename_i sf p1 f p2 x p3 p4 r' e
      cases e
      obtain ⟨h0, h8⟩ := gd_ok h
      obtain ⟨a1, h0⟩ := an h0
      obtain ⟨a2, h0⟩ := an h0
      obtain ⟨a3, h0⟩ := an h0
      obtain ⟨a4, a5⟩ := an h0
      obtain ⟨a4, a6⟩ := an a4
      obtain ⟨a5, a7⟩ := an a5
      obtain ⟨i, hi, h7⟩ := bd h8
      obtain ⟨t, ht, rfl⟩ := mp_ok h7
      exact .cons (of_decide_eq_true a1) (.inl (of_decide_eq_true a2)) (nt a4) (nt a6) (ixOf_ok hi) (.inl (of_decide_eq_true a3)) (nt a5) (nt a7) rfl (initB_ok ht)
    · cases h
def Fd.wf (f : Fd) : Bool := parB f.d.params f.N f.np && (scB f.N f.np f.d.scope && (f.d.dfl.isEmpty && f.d.kwd.isEmpty))
def Xd.wf (f : Xd) : Bool := parB f.d.params f.N (f.np + 1) && (scB f.N (f.np + 1) f.d.scope && ((f.d.dfl.isEmpty && f.d.kwd.isEmpty) && (!f.fs.isEmpty && (decide (f.fs.length ≤ 900) && (decide (f.np ≤ 900) && ((f.fs.all fun p => decide (1 ≤ p.2 ∧ p.2 ≤ f.np)) && (match initB f.N f.d.scope f.d.body with
  | some fs => decide (fs = f.fs)
  | none => false)))))))
end Pi

/-! Pi32: the tables tell true; every function keeps its promise. -/
namespace Pi
open PyProof.Rows PySem L2 PySem.Spec

/-- a def as it stands -/
def Says (K : PySem.W.Frag) (at_ : Loc2) (d : He.DefD) : Prop := ∃ fd, FunD K d.name d.qual d.params d.body d.scope (d.dvs K) (d.kws K) (He.fAd K at_) fd
section
variable {L : Ld} {K : PySem.W.Frag}
theorem get_ok {k : Loc2} {f : Fd} (h : L.get k = some f) : f ∈ L.fs ∧ f.at_ = k := by
  unfold Ld.get at h
  exact ⟨List.mem_of_find?_eq_some h, of_decide_eq_true (List.find?_some (p := fun f : Fd => decide (f.at_ = k)) h)⟩
theorem par_ok {p : Arguments} {N : List Str} {np : Nat} (h : parB p N np = true) : ∃ as, p = ⟨[], as, none, [], [], none, []⟩ ∧ as.map (·.arg) = N.take np := by
  unfold parB at h
  split at h
  · exact ⟨_, rfl, of_decide_eq_true h⟩
  · cases h
theorem says_nil {at_ : Loc2} {d : He.DefD} (h : Says K at_ d) (h1 : d.dfl.isEmpty = true) (h2 : d.kwd.isEmpty = true) : ∃ fd, FunD K d.name d.qual d.params d.body d.scope [] [] (He.fAd K at_) fd := by
  obtain ⟨fd, F⟩ := h
  have e1 : d.dvs K = [] := by
    unfold He.DefD.dvs
    rw [List.isEmpty_iff.mp h1]
    rfl
  have e2 : d.kws K = [] := by
    unfold He.DefD.kws
    rw [List.isEmpty_iff.mp h2]
    rfl
  rw [e1, e2] at F
  exact ⟨fd, F⟩
theorem binds_of {x qual : Str} {p : Arguments} {body : List Stmt} {scope : Scope} {f : Addr} {fd : FuncData} {N : List Str} {np : Nat} (F : FunD K x qual p body scope [] [] f fd) (h : parB p N np = true) (nd : (N.take np).Nodup) : Binds K fd (N.take np) [] := by
  obtain ⟨as, rfl, e⟩ := par_ok h
  refine F.bindsN fun kV doc pm an cdv ct us hl => ?_
  rw [← e] at hl nd ⊢
  exact bind_plain nd hl
theorem bindsTo_of {x qual : Str} {p : Arguments} {body : List Stmt} {scope : Scope} {f : Addr} {fd : FuncData} {N : List Str} {np : Nat} (F : FunD K x qual p body scope [] [] f fd) (h : parB p N np = true) (nd : (N.take np).Nodup) (s : Shared) (us : List Value) (hl : us.length = (N.take np).length) : BindsTo s fd ⟨us, []⟩ ((N.take np).zip us) := by
  obtain ⟨as, rfl, e⟩ := par_ok h
  refine F.bindsA (fun kV doc pm an cdv ct us hl => ?_) s us hl
  rw [← e] at hl nd ⊢
  exact bind_plain nd hl
/-- what is told of a text -/
structure Told (L : Ld) (K : PySem.W.Frag) : Prop where
  ok : L.ok K = true
  fs : ∀ f ∈ L.fs, f.wf = true ∧ Says K f.at_ f.d
  xs : ∀ f ∈ L.xs, f.wf = true ∧ Says K (f.x, some anI) f.d
  mt : ∀ e ∈ L.mth, e.1 ∈ L.own ∧ ∃ f, L.get (e.1, some e.2.1) = some f ∧ f.np = e.2.2
theorem Told.all (h : Told L K) : (∀ f ∈ L.fs, (match f.at_ with
    | (x, none) => (He.Fa.glo x).ok K
    | (c, some m) => (He.Fa.meth c m).ok K) = true) ∧ (∀ c ∈ L.own, ((He.Fa.cls c).ok K && ((He.Fa.mkr c).ok K && (He.Fa.glo c).ok K)) = true) ∧ (∀ p ∈ L.att, ((He.Fa.cls p.1).ok K && (He.Fa.noat p.1 p.2).ok K) = true) ∧
    (∀ p ∈ L.exa, (xfB K (He.ga K p.1) && (He.Fa.noat p.1 p.2).ok K) = true) ∧ (∀ p ∈ L.sub, (decide (PySem.W.kitOne K (tyV K p.1) (clV K p.2.1) = some p.2.2) && tyB K p.1) = true) ∧
    (∀ p ∈ L.exs, PySem.W.exmOne K (.ref (He.ga K p.1)) (clV K p.2.1) = some p.2.2) ∧
    (∀ p ∈ L.xs, (oexB K (He.ga K p.x) && ((He.Fa.glo p.x).ok K && ((p.fs.all fun q => (He.Fa.noat p.x q.1).ok K) && (decide (PySem.W.findIn K (.ref (He.ga K p.x)) "__init__" = some (some (.ref (He.fAd K (p.x, some anI))))) && decide (PySem.W.typeIn K (.ref (He.fAd K (p.x, some anI))) = some (.type "function")))))) = true) ∧
    (∀ x ∈ L.exc0, ((He.Fa.exc x).ok K && (He.Fa.glo x).ok K) = true) ∧
    (∀ p ∈ L.glb, (match PySem.W.nsIn K mainGlobals p.1 with
      | some (some u) => vOf K p.2 u
      | _ => false) = true) ∧
    (∀ x ∈ L.cls, (match btNm x with
      | some n => (He.Fa.free x).ok K && decide (bootBuiltins x = some (.type n))
      | none => (He.Fa.glo x).ok K) = true) ∧ (∀ x ∈ L.fre, (He.Fa.free x).ok K = true) := by
  obtain ⟨h1, k⟩ := an h.ok
  obtain ⟨h2, k⟩ := an k
  obtain ⟨h3, k⟩ := an k
  obtain ⟨h4, k⟩ := an k
  obtain ⟨h5, k⟩ := an k
  obtain ⟨h6, k⟩ := an k
  obtain ⟨h7, k⟩ := an k
  obtain ⟨h8, k⟩ := an k
  obtain ⟨h9, k⟩ := an k
  obtain ⟨h10, h11⟩ := an k
  exact ⟨List.all_eq_true.mp h1, List.all_eq_true.mp h2, List.all_eq_true.mp h3, List.all_eq_true.mp h4, List.all_eq_true.mp h5, fun p hp => of_decide_eq_true (List.all_eq_true.mp h6 p hp), List.all_eq_true.mp h7, List.all_eq_true.mp h8, List.all_eq_true.mp h9, List.all_eq_true.mp h10, List.all_eq_true.mp h11⟩
theorem find_ok {α β : Type} {l : List α} {p : α → Bool} {g : α → β} {b : β} (h : (l.find? p).map g = some b) : ∃ a ∈ l, p a = true ∧ g a = b := by
  obtain ⟨a, h1, h2⟩ := mp_ok h
  exact ⟨a, List.mem_of_find?_eq_some h1, List.find?_some h1, h2⟩
theorem tbSt_of (h : Told L K) {X : Cx} {F : FEnv} (eK : X.K = K) {hp : Heap} (KX : K.In hp) (G : hp.Ns mainGlobals X.mg) (hu : X.A.units + 100 < cLine) (gd : X.A.guards = some []) : TbSt (L.tb F) X := by
  subst eK
  obtain ⟨a1, a2, a3, a4, a5, a6, a7, a8, a9, a10, a11⟩ := h.all
  refine ⟨⟨fun c f e => ?_, fun c f e => ?_⟩, ⟨fun c f e => ?_, fun c f e => ?_⟩, fun t c b e => ?_, fun c h b e => ?_, fun x d e => ?_, fun x e => ?_, fun x e => ?_, hu, gd⟩
  · exact He.cls_ok (an (a3 _ (of_decide_eq_true e))).1
  · exact He.noat_ok (an (a3 _ (of_decide_eq_true e))).2
  · exact xfB_ok (an (a4 _ (of_decide_eq_true e))).1
  · exact He.eqO_ok (an (a4 _ (of_decide_eq_true e))).2
  · obtain ⟨⟨t', c', b'⟩, m, z, rfl⟩ := find_ok e
    obtain ⟨rfl, rfl⟩ := of_decide_eq_true z
    obtain ⟨k1, k2⟩ := an (a5 _ m)
    exact ⟨of_decide_eq_true k1, tyB_ok k2⟩
  · obtain ⟨⟨c', h', b'⟩, m, z, rfl⟩ := find_ok e
    obtain ⟨rfl, rfl⟩ := of_decide_eq_true z
    exact a6 _ m
  · obtain ⟨⟨x', d'⟩, m, z, rfl⟩ := find_ok e
    have z : x' = x := of_decide_eq_true z
    subst z
    have k := a9 _ m
    simp only at k
    split at k
    · rename_i u hu
      obtain ⟨v, r, dv⟩ := vOf_ok _ _ k
      exact ⟨v, u, PySem.W.mg_of KX G hu, r, dv⟩
    · cases k
  · have k := a10 _ (of_decide_eq_true e)
    split at k
    · rename_i n hn
      obtain ⟨k1, k2⟩ := an k
      exact .inl ⟨n, hn, He.free_ok KX G k1, of_decide_eq_true k2⟩
    · rename_i hn
      exact .inr ⟨hn, He.glo_ok KX G k⟩
  · exact He.free_ok KX G (a11 _ (of_decide_eq_true e))
/-- an exception's class, made -/
theorem xd_ok (h : Told L K) {P : Program} {w : World} {mg : Str → Option Value} {base : Heap} {f : Xd} (hf : f ∈ L.xs) : ∃ fd, FnOk P w K mg base (L2.CX P w) 1 (He.fAd K (f.x, some anI)) fd (f.N.take (f.np + 1)) (spI K (He.ga K f.x) f.np f.fs) ∧ Binds K fd (f.N.take (f.np + 1)) [] := by
  obtain ⟨wf, sy⟩ := h.xs f hf
  obtain ⟨w1, wf⟩ := an wf
  obtain ⟨w2, wf⟩ := an wf
  obtain ⟨w3, wf⟩ := an wf
  obtain ⟨w3, w4⟩ := an w3
  obtain ⟨w5, wf⟩ := an wf
  obtain ⟨w6, wf⟩ := an wf
  obtain ⟨w7, wf⟩ := an wf
  obtain ⟨w8, w9⟩ := an wf
  obtain ⟨sc, hl⟩ := scB_ok w2
  obtain ⟨fd, F⟩ := says_nil sy w3 w4
  have ln : (f.N.take (f.np + 1)).length = f.np + 1 := by rw [List.length_take, Nat.min_eq_left hl]
  refine ⟨fd, F.ok sc (fun vs H Q E q => by rw [ln]; exact q.1) fun cdv A outer s H vs Q E hr q => ⟨tIn K f.fs, init_walk (initB_ok ?_), ?_⟩, binds_of F w1 (sc.nd.sublist (List.take_sublist _ _))⟩
  · show initB f.N f.d.scope f.d.body = some f.fs
    split at w9
    · rename_i fs' e
      rw [e, of_decide_eq_true w9]
    · cases w9
  · obtain ⟨hl2, a, e0, O, hne, hz, hfs, ha, q⟩ := q
    have at_ : ∀ {i : Nat}, i < vs.length → (L2.start f.N vs)[i]? = (vs.map some)[i]? := fun hi => start_at hi
    refine ⟨a, He.ga K f.x, by rw [at_ (by omega), List.getElem?_map, e0]; rfl, O, fun p hp => ⟨(hfs p hp).1, ?_⟩, .inl ⟨ha, hne, hz, fun H2 dx n ne z1 z2 z3 => q H2 dx n ne z1 ?_ z3⟩⟩
    · have hi : p.2 < vs.length := by have := (hfs p hp).2; omega
      exact ⟨vs[p.2], by rw [at_ hi, List.getElem?_map, List.getElem?_eq_getElem hi]; rfl⟩
    · rw [z2, rvF_start fun p hp => by have := (hfs p hp).2; omega]
theorem tbOk_of (h : Told L K) {X : Cx} {n : Nat} (eK : X.K = K) {hp : Heap} (KX : K.In hp) (G : hp.Ns mainGlobals X.mg) (hr : Rm (2 * n + 3) X.A)
    (ih : ∀ k f fd, L.get k = some f → FunD K f.d.name f.d.qual f.d.params f.d.body f.d.scope [] [] (He.fAd K k) fd → FnG X.prog X.w K X.mg X.base (2 * n + 2) (He.fAd K k) fd (f.N.take f.np) (L.den n k)) : TbOk (L.tb (L.den n)) X := by
  subst eK
  obtain ⟨a1, a2, a3, a4, a5, a6, a7, a8, a9, a10, a11⟩ := h.all
  have one : ∀ {k : Loc2} {f : Fd}, L.get k = some f → ∃ fd, FnG X.prog X.w X.K X.mg X.base (2 * n + 2) (He.fAd X.K k) fd (f.N.take f.np) (L.den n k) ∧ (f.N.take f.np).length = f.np ∧ Binds X.K fd (f.N.take f.np) [] ∧ PySem.W.keepIn X.K (.ref (He.fAd X.K k)) = true := fun {k f} e => by
    obtain ⟨m, rfl⟩ := get_ok e
    obtain ⟨wf, sy⟩ := h.fs f m
    obtain ⟨w1, wf⟩ := an wf
    obtain ⟨w2, wf⟩ := an wf
    obtain ⟨w3, w4⟩ := an wf
    obtain ⟨sc, hl⟩ := scB_ok w2
    obtain ⟨fd, F⟩ := says_nil sy w3 w4
    exact ⟨fd, ih _ f fd e F, by rw [List.length_take, Nat.min_eq_left hl], binds_of F w1 (sc.nd.sublist (List.take_sublist _ _)), F.kp⟩
  refine ⟨fun x m g e => ?_, fun x m g e => ?_, fun c m np g e => ?_, fun x np fs e => ?_, fun x e => ?_⟩
  · have e : (match L.get (x, none) with
      | some f => gd (decide (m = f.np)) (some (L.den n (x, none)))
      | none => none) = some g := e
    cases eg : L.get (x, none) with
    | none => rw [eg] at e; cases e
    | some f =>
      rw [eg] at e
      obtain ⟨hm, e⟩ := gd_ok e
      cases e
      obtain ⟨fd, F, hl, hb, kp⟩ := one eg
      obtain ⟨mem, ea⟩ := get_ok eg
      have k1 := a1 f mem
      rw [ea] at k1
      exact ⟨2 * n + 2, _, fd, _, [], [], [], f.np, _, F, hl, hr.mono (by omega), He.glo_ok KX G k1, kp, hb, .nil, fun _ _ => rfl, of_decide_eq_true hm ▸ rfl, by funext xs; rw [List.append_nil]⟩
  · obtain ⟨ho, e⟩ := gd_ok (show gd (decide (x ∈ L.own)) (match L.get (x, some "__init__") with
      | some f => gd (decide (m + 1 = f.np)) (some (L.den n (x, some "__init__")))
      | none => none) = some g from e)
    cases eg : L.get (x, some "__init__") with
    | none => rw [eg] at e; cases e
    | some f =>
      rw [eg] at e
      obtain ⟨hm, e⟩ := gd_ok e
      cases e
      obtain ⟨fd, F, hl, hb, kp⟩ := one eg
      obtain ⟨k1, k2⟩ := an (a2 _ (of_decide_eq_true ho))
      obtain ⟨k2, k3⟩ := an k2
      exact ⟨2 * n + 2, _, fd, _, [], [], [], f.np, _, He.mkr_ok k2, F, hl, hr, He.glo_ok KX G k3, hb, .nil, fun _ _ => rfl, by rw [← of_decide_eq_true hm]; rfl, by funext xs; rw [List.append_nil]⟩
  · obtain ⟨⟨c', m', q⟩, mem0, z, e2⟩ := find_ok (show (L.mth.find? fun e => decide (e.1 = c ∧ e.2.1 = m)).map (fun e => (e.2.2, L.den n (c, some m))) = some (np, g) from e)
    cases e2
    obtain ⟨rfl, rfl⟩ := of_decide_eq_true z
    obtain ⟨ho, f, eg, rfl⟩ := h.mt _ mem0
    obtain ⟨fd, F, hl, hb, kp⟩ := one eg
    obtain ⟨mem, ea⟩ := get_ok eg
    have k1 := a1 f mem
    rw [ea] at k1
    obtain ⟨k2, k3⟩ := an (a2 _ ho)
    exact ⟨2 * n + 2, _, fd, _, He.cls_ok k2, He.meth_ok k1, F, hl, hr.mono (by omega), hb⟩
  · obtain ⟨f, mem, z, e2⟩ := find_ok (show (L.xs.find? fun e => decide (e.x = x)).map (fun e => (e.np, e.fs)) = some (np, fs) from e)
    cases e2
    have z : f.x = x := of_decide_eq_true z
    subst z
    obtain ⟨fd, F, hb⟩ := xd_ok h (P := X.prog) (w := X.w) (mg := X.mg) (base := X.base) mem
    obtain ⟨wf, _⟩ := h.xs f mem
    obtain ⟨w1, wf⟩ := an wf
    obtain ⟨w2, wf⟩ := an wf
    obtain ⟨w3, wf⟩ := an wf
    obtain ⟨w5, wf⟩ := an wf
    obtain ⟨w6, wf⟩ := an wf
    obtain ⟨w7, wf⟩ := an wf
    obtain ⟨w8, w9⟩ := an wf
    obtain ⟨k1, k⟩ := an (a7 f mem)
    obtain ⟨k2, k⟩ := an k
    obtain ⟨k3, k⟩ := an k
    obtain ⟨k4, k5⟩ := an k
    refine ⟨oexB_ok k1, fun z => ?_, of_decide_eq_true w6, of_decide_eq_true w7, fun p hp => ⟨He.eqO_ok (List.all_eq_true.mp k3 p hp), of_decide_eq_true (List.all_eq_true.mp w8 p hp)⟩, He.glo_ok KX G k2, 1, _, fd, _, of_decide_eq_true k4, of_decide_eq_true k5, F, hr.rm.mono (by omega), hb⟩
    rw [z] at w5
    cases w5
  · obtain ⟨k1, k2⟩ := an (a8 _ (of_decide_eq_true e))
    obtain ⟨q1, q2, q3, q4⟩ := He.exc_ok k1
    exact ⟨He.glo_ok KX G k2, q2, raises_own q3 q4, _, _, _, _, F.excBase_ValueError, q1⟩
/-- the readings of the bodies -/
def Reads2 (L : Ld) : Prop := ∀ (F : FEnv), ∀ f ∈ L.fs, cSs (stN (L.tb F) f.N (rdN (L.tb F) f.N 40) 24 ⟨f.d.scope, true, fun _ => true⟩) f.d.body = some (f.body F)
theorem fns_ok (h : Told L K) (rd : Reads2 L) {P : Program} {w : World} {mg : Str → Option Value} {base : Heap} (KX : K.In base) (G : base.Ns mainGlobals mg) :
    ∀ n k f fd, L.get k = some f → FunD K f.d.name f.d.qual f.d.params f.d.body f.d.scope [] [] (He.fAd K k) fd → FnG P w K mg base (2 * n + 2) (He.fAd K k) fd (f.N.take f.np) (L.den n k)
  | 0, k, f, fd, e, F => fun A outer s H args us vs Q E hr e0 hb r hsp => by
    obtain ⟨_, μ, A', ds, _, _, z⟩ := hsp
    exact z.elim
  | n + 1, k, f, fd, e, F => by
    obtain ⟨mem, rfl⟩ := get_ok e
    obtain ⟨wf, sy⟩ := h.fs f mem
    obtain ⟨w1, wf⟩ := an wf
    obtain ⟨w2, wf⟩ := an wf
    obtain ⟨sc, hl⟩ := scB_ok w2
    have ln : (f.N.take f.np).length = f.np := by rw [List.length_take, Nat.min_eq_left hl]
    obtain ⟨oc, od, dV, kV, doc, pm, an', cdv, ct, osl, rfl, lk, hcd, _, _⟩ := F.ex
    show FnG P w K mg base (2 * (n + 1) + 1 + 1) _ _ _ _
    refine fnG_of lk hcd sc fun A outer s H vs Q E hr hsp => ?_
    have hr : Rm (2 * n + 3) (A.deeper (envOfC f.d.qual f.d.scope s.heap.objs.size (He.fAd K f.at_) cdv)) := hr
    have g : GoodS (L.tb (L.den n)) f.N ⟨f.d.scope, true, fun _ => true⟩ (cxOf (L2.CX P w) P w K mg base f.N f.d.qual f.d.scope (He.fAd K f.at_) cdv A outer s H E) (fun c d _ H => E c d H) :=
      ⟨⟨tbSt_of h rfl KX G (by have := hr.rm.un; show (A.deeper _).units + 100 < _; omega) hr.gd, fun _ => ⟨rfl, tbOk_of h rfl KX G hr fun k f fd e F => fns_ok h rd KX G n k f fd e F⟩,
        takes_of rfl rfl rfl rfl, rfl, rfl, sc.nd, fun _ _ => rfl⟩, fun _ => passes_of rfl, fun _ => ⟨rfl, rfl⟩⟩
    refine ⟨_, cSs_ok (fun q => stN_ok (rdN_ok 40) 24 g q) (rd (L.den n) f mem), ?_⟩
    obtain ⟨hlv, μ, A0, ds, hr0, dvs, p⟩ := hsp
    have hden : L.den (n + 1) f.at_ = runB f.N.length (f.body (L.den n)) := by
      show (match L.get f.at_ with
        | some f => runB f.N.length (f.body (L.den n))
        | none => fun _ => noM) = _
      rw [e]
    rw [hden] at p
    have fr : FR K μ H (ds.map some ++ List.replicate (f.N.length - ds.length) none) (L2.start f.N vs) := by
      unfold L2.start
      rw [dvs.length]
      refine ⟨by rw [List.length_append, List.length_append, List.length_map, List.length_map, dvs.length, List.length_replicate, List.length_replicate], fun i d e => ?_⟩
      by_cases hi : i < ds.length
      · rw [List.getElem?_append_left (by rw [List.length_map]; exact hi), List.getElem?_map] at e
        rw [List.getElem?_append_left (by rw [List.length_map, dvs.length]; exact hi), List.getElem?_map]
        rw [List.getElem?_eq_getElem hi] at e
        cases e
        obtain ⟨v, e1, e2⟩ := dvs.get (List.getElem?_eq_getElem hi)
        exact ⟨v, by rw [e1]; rfl, e2⟩
      · rw [List.getElem?_append_right (by rw [List.length_map]; omega), List.getElem?_replicate] at e
        split at e <;> cases e
    refine ⟨μ, A0, _, hr0, fr, ?_⟩
    unfold runB at p
    cases er : f.body (L.den n) (ds.map some ++ List.replicate (f.N.length - ds.length) none) A0 with
    | nx ρ A' => rw [er] at p; exact fun μ' H' σ' l r f => p μ' H' l r .non rfl
    | rt d A' => rw [er] at p; exact fun μ' H' v l r dv => p μ' H' l r v dv
    | bk ρ A' => rw [er] at p; exact p.elim
    | ct ρ A' => rw [er] at p; exact p.elim
    | ex c fs ρ A' => rw [er] at p; exact fun μ' H' σ' cls dd l r f x => p μ' H' cls dd l r x
    | no => rw [er] at p; exact p.elim
end
end Pi

/-! Pi33: the head's look, the law's end. -/
namespace Pi
open PyProof.Rows PySem L2 PySem.Spec

def Ld.defs (L : Ld) : List He.DefD := L.fs.map (·.d) ++ L.xs.map (·.d)
abbrev AlP : Type := Bool × List He.FnW
def obsP (L : Ld) (K : PySem.W.Frag) : AlP := (L.ok K && L.defs.all fun d => d.ok K, L.defs.map fun d => He.fnW K d.at_)
def valP (L : Ld) : AlP := (true, L.defs.map He.DefD.val)
def SaysP (L : Ld) (K : PySem.W.Frag) : Prop := obsP L K = valP L
def obsPG (n : Nat) (L : Ld) (g : Addr → Option Obj) : AlP := obsP L (He.frG g (He.asD g n))
def hookP (n : Nat) (L : Ld) : PySem.W.Hook where
  α := AlP
  obs := fun s => obsPG n L s.heap.get?
  val := fun _ => valP L
  says := fun _ h => ∃ K : PySem.W.Frag, K.In h ∧ SaysP L K
  of := fun _ _ e => ⟨_, He.frG_in, e⟩
  keeps := fun _ _ _ ⟨K, hK, c⟩ k => ⟨K, PySem.W.Frag.In.keeps hK k, c⟩
theorem obsPG_eq {n : Nat} {L : Ld} {g : Addr → Option Obj} {s : Shared} (h : ∀ a, g a = s.heap.get? a) : obsPG n L g = (hookP n L).obs s := by
  have e : g = s.heap.get? := funext h
  rw [e] <;> rfl
def Ld.wf (L : Ld) : Bool := (L.fs.all fun f => f.wf && decide (f.d.at_ = f.at_)) && ((L.xs.all fun f => f.wf && decide (f.d.at_ = (f.x, some anI))) && (L.mth.all fun e => decide (e.1 ∈ L.own) && (match L.get (e.1, some e.2.1) with
  | some f => decide (f.np = e.2.2)
  | none => false)))
theorem says_def {L : Ld} {K : PySem.W.Frag} (c : SaysP L K) {d : He.DefD} (h : d ∈ L.defs) : Says K d.at_ d := by
  have c1 := (an (show (L.ok K && L.defs.all fun d => d.ok K) = true from congrArg (fun z : AlP => z.1) c)).2
  have c2 : L.defs.map (fun d => He.fnW K d.at_) = L.defs.map He.DefD.val := congrArg (fun z : AlP => z.2) c
  obtain ⟨i, hi⟩ := List.mem_iff_getElem?.mp h
  have e : (L.defs.map fun d => He.fnW K d.at_)[i]? = (L.defs.map He.DefD.val)[i]? := by rw [c2]
  rw [List.getElem?_map, List.getElem?_map, hi] at e
  exact He.DefD.funD (Option.some.inj e) (List.all_eq_true.mp c1 d h)
theorem told_of {L : Ld} {K : PySem.W.Frag} (c : SaysP L K) (wf : L.wf = true) : Told L K := by
  obtain ⟨w1, w2⟩ := an wf
  obtain ⟨w2, w3⟩ := an w2
  refine ⟨(an (show (L.ok K && L.defs.all fun d => d.ok K) = true from congrArg (fun z : AlP => z.1) c)).1, fun f hf => ?_, fun f hf => ?_, fun e he => ?_⟩
  · obtain ⟨k1, k2⟩ := an (List.all_eq_true.mp w1 f hf)
    have s := says_def c (d := f.d) (List.mem_append_left _ (List.mem_map_of_mem hf))
    rw [of_decide_eq_true k2] at s
    exact ⟨k1, s⟩
  · obtain ⟨k1, k2⟩ := an (List.all_eq_true.mp w2 f hf)
    have s := says_def c (d := f.d) (List.mem_append_right _ (List.mem_map_of_mem hf))
    rw [of_decide_eq_true k2] at s
    exact ⟨k1, s⟩
  · obtain ⟨k1, k2⟩ := an (List.all_eq_true.mp w3 e he)
    refine ⟨of_decide_eq_true k1, ?_⟩
    split at k2
    · rename_i f hf
      exact ⟨f, hf, of_decide_eq_true k2⟩
    · cases k2
/-- the row's call, from the plain truth about the readings -/
theorem walkP {l : PySem.W.OpenLaw} {m n : Nat} {q : Program} {loose : List Str} {XP : (Str → Option Value) → Heap → Prop} {d : DefRec} {x : Str} {L : Ld} {f : Fd} (hn : l.most = some m) (hm : m ≤ sizeLine) (hdf : d.params.defaults = []) (hr : Room (2 * n + 2) callerA)
    (hname : d.name = ("law" : Str)) (hf : L.get ("law", none) = some f) (hN : f.N.take f.np = [x]) (wf : L.wf = true) (rd : Reads2 L)
    (law : ∀ ns : List Int, ns.length ≤ m → ∃ A', L.den n ("law", none) [.frl (ns.map D.int)] [] = .ok (.bl true) A') :
    PySem.W.WalkO q loose XP (fun _ h => ∃ K : PySem.W.Frag, K.In h ∧ SaysP L K) l.row.toRowW d [] (fun f vs => PySem.call f vs) := by
  refine walk_law (n := m) (k := 2 * n + 2) (x := x) hn hm hdf hr fun w mg fa h Y G hmg => ?_
  obtain ⟨K, KX, c⟩ := Y
  have t := told_of c wf
  obtain ⟨mem, ea⟩ := get_ok hf
  obtain ⟨fwf, sy⟩ := t.fs f mem
  obtain ⟨w1, w0⟩ := an fwf
  obtain ⟨w2, w0⟩ := an w0
  obtain ⟨w3, w4⟩ := an w0
  obtain ⟨sc, hl⟩ := scB_ok w2
  rw [ea] at sy
  obtain ⟨fd, F⟩ := says_nil sy w3 w4
  have k1 := t.all.1 f mem
  rw [ea] at k1
  have e := hmg
  rw [hname, He.glo_ok KX G k1] at e
  have e : He.fAd K (("law", none) : Loc2) = fa := Value.ref.inj (Option.some.inj e)
  rw [e] at F
  refine ⟨K, fd, L.den n ("law", none), KX, fun s u => ?_, law, fun base KB GB => ?_⟩
  · have b := bindsTo_of F w1 (sc.nd.sublist (List.take_sublist _ _)) s [u]
    rw [hN] at b
    exact b rfl
  · have z := fns_ok t rd (P := l.prog) (w := w) KB GB n ("law", none) f fd hf (e ▸ F)
    rw [hN, e] at z
    exact z
end Pi

namespace Pi
open PyProof.Rows PySem L2 PySem.Spec
/-! the text: its defs -/
abbrev prg : Program := PySem.Challenge.pw_onebusyline_k01_errors
def top (i : Nat) : Stmt := prg.main.body.getD i (.Pass ⟨0, 0, 0, 0⟩)
def cdef (i j : Nat) : Stmt := (match top i with
  | .ClassDef _ _ _ b _ _ _ _ _ _ _ => b
  | _ => []).getD j (.Pass ⟨0, 0, 0, 0⟩)
def xsL : List Xd := [⟨"BadName", ⟨("BadName", some "__init__"), "__init__", "BadName.__init__", defArgs (cdef 3 0), defBody (cdef 3 0), defScope (cdef 3 0), [], []⟩, ["self", "name"], 1, [("name", 1)]⟩,
  ⟨"BadNumber", ⟨("BadNumber", some "__init__"), "__init__", "BadNumber.__init__", defArgs (cdef 4 0), defBody (cdef 4 0), defScope (cdef 4 0), [], []⟩, ["self", "what", "number"], 2, [("what", 1), ("number", 2)]⟩,
  ⟨"BadRow", ⟨("BadRow", some "__init__"), "__init__", "BadRow.__init__", defArgs (cdef 5 0), defBody (cdef 5 0), defScope (cdef 5 0), [], []⟩, ["self", "what", "row"], 2, [("what", 1), ("row", 2)]⟩,
  ⟨"BadText", ⟨("BadText", some "__init__"), "__init__", "BadText.__init__", defArgs (cdef 2 0), defBody (cdef 2 0), defScope (cdef 2 0), [], []⟩, ["self", "line", "word"], 2, [("line", 1), ("word", 2)]⟩,
  ⟨"NoName", ⟨("NoName", some "__init__"), "__init__", "NoName.__init__", defArgs (cdef 6 0), defBody (cdef 6 0), defScope (cdef 6 0), [], []⟩, ["self", "name"], 1, [("name", 1)]⟩,
  ⟨"NotKept", ⟨("NotKept", some "__init__"), "__init__", "NotKept.__init__", defArgs (cdef 11 0), defBody (cdef 11 0), defScope (cdef 11 0), [], []⟩, ["self", "promise", "witness"], 2, [("promise", 1), ("witness", 2)]⟩,
  ⟨"NotThere", ⟨("NotThere", some "__init__"), "__init__", "NotThere.__init__", defArgs (cdef 9 0), defBody (cdef 9 0), defScope (cdef 9 0), [], []⟩, ["self", "what"], 1, [("what", 1)]⟩,
  ⟨"TakenName", ⟨("TakenName", some "__init__"), "__init__", "TakenName.__init__", defArgs (cdef 7 0), defBody (cdef 7 0), defScope (cdef 7 0), [], []⟩, ["self", "name"], 1, [("name", 1)]⟩,
  ⟨"TooMany", ⟨("TooMany", some "__init__"), "__init__", "TooMany.__init__", defArgs (cdef 10 0), defBody (cdef 10 0), defScope (cdef 10 0), [], []⟩, ["self", "what", "many", "limit"], 3, [("what", 1), ("many", 2), ("limit", 3)]⟩,
  ⟨"Unlike", ⟨("Unlike", some "__init__"), "__init__", "Unlike.__init__", defArgs (cdef 8 0), defBody (cdef 8 0), defScope (cdef 8 0), [], []⟩, ["self", "what"], 1, [("what", 1)]⟩]
def mthL : List (Str × Str × Nat) := []
def attL : List (Str × Str) := []
def exaL : List (Str × Str) := [("BadName", "name"), ("BadNumber", "what"), ("BadNumber", "number"), ("BadRow", "what"), ("BadRow", "row"), ("BadText", "line"), ("BadText", "word"), ("NoName", "name"), ("NotKept", "promise"), ("NotKept", "witness"), ("NotThere", "what"), ("TakenName", "name"), ("TooMany", "what"), ("TooMany", "many"), ("TooMany", "limit"), ("Unlike", "what")]
def excN : List Str := ["BadName", "BadNumber", "BadRow", "BadText", "NoName", "NotKept", "NotThere", "NothingToRedo", "NothingToUndo", "TakenName", "TooMany", "Unlike"]
def excC : List Str := ["BadName", "BadNumber", "BadRow", "BadText", "NoName", "NotKept", "NotThere", "NothingToRedo", "NothingToUndo", "TakenName", "TalkError", "TooMany", "Unlike", "ValueError"]
def isKind (x c : Str) : Bool := decide (c = x) || (decide (c = "TalkError") || decide (c = "ValueError"))
def subL : List (Ty × Str × Bool) := (excN.flatMap fun x => excC.map fun c => (Ty.exc x, c, isKind x c)) ++ []
def exsL : List (Str × Str × Bool) := excN.flatMap fun x => excC.map fun c => (x, c, isKind x c)
def attT : Att := fun c f => decide ((c, f) ∈ attL)
def exaT : Att := fun c f => decide ((c, f) ∈ exaL)
def subT : Sub := fun t c => (subL.find? fun e => decide (e.1 = t ∧ e.2.1 = c)).map (·.2.2)
def exsT : Exs := fun c h => (exsL.find? fun e => decide (e.1 = c ∧ e.2.1 = h)).map (·.2.2)
def mtsT (F : FEnv) : Mts := fun c m => (mthL.find? fun e => decide (e.1 = c ∧ e.2.1 = m)).map fun e => (e.2.2, F (c, some m))
/-- _law_pen(script): 0 script, 1 fold, 2 cell -/
noncomputable def b__law_pen (F : FEnv) : SM :=
  (sSeq (sAsg (eC (.int 47)) (gNam 1))
  (sSeq (sFor (mSrc (eVar 0)) (gNam 2)
  (sAsg (eOp modD (eCall intD (aCons (eOp addD (eOp mulD (eVar 1) (eC (.int 151))) (eVar 2)) aNil)) (eC (.int 1000000459))) (gNam 1)))
  (sRet (eDisp [((eC (.str "cells")), (eCall listD (aCons (eVar 0) aNil))), ((eC (.str "at")), (eC (.int 0))), ((eC (.str "digits")), (eC (.int 0))), ((eC (.str "count")), (eC (.int 0))), ((eC (.str "fold")), (eVar 1))]))))
/-- _law_draw(pen, many): 0 pen, 1 many, 2 cell, 3 digit, 4 blend -/
noncomputable def b__law_draw (F : FEnv) : SM :=
  (sSeq (sAsg (eOp addD (eOp getD (eVar 0) (eC (.str "count"))) (eC (.int 1))) (gPut (eVar 0) (eC (.str "count"))))
  (sSeq (sIf (tAnd (tCmp eqD (eOp getD (eVar 0) (eC (.str "digits"))) (eC (.int 0))) (tCmp ltD (eOp getD (eVar 0) (eC (.str "at"))) (eCall lenD (aCons (eOp getD (eVar 0) (eC (.str "cells"))) aNil))))
  (sSeq (sAsg (eOp getD (eOp getD (eVar 0) (eC (.str "cells"))) (eOp getD (eVar 0) (eC (.str "at")))) (gNam 2))
    (sSeq (sAsg (eOp addD (eOp getD (eVar 0) (eC (.str "at"))) (eC (.int 1))) (gPut (eVar 0) (eC (.str "at"))))
    (sIf (tCmp geD (eVar 2) (eOp powD (eC (.int 10)) (eC (.int 18))))
    (sAsg (eOp subD (eVar 2) (eOp powD (eC (.int 10)) (eC (.int 18)))) (gPut (eVar 0) (eC (.str "digits"))))
    (sAsg (eOp modD (eCall intD (aCons (eOp addD (eOp mulD (eOp getD (eVar 0) (eC (.str "fold"))) (eC (.int 70121))) (eVar 2)) aNil)) (eC (.int 2147483123))) (gPut (eVar 0) (eC (.str "fold")))))))
  sNx)
  (sSeq (sIf (tCmp gtD (eOp getD (eVar 0) (eC (.str "digits"))) (eC (.int 0)))
  (sSeq (sAsg (eOp modD (eCall intD (aCons (eOp getD (eVar 0) (eC (.str "digits"))) aNil)) (eVar 1)) (gNam 3))
    (sSeq (sAsg (eOp fdivD (eOp getD (eVar 0) (eC (.str "digits"))) (eVar 1)) (gPut (eVar 0) (eC (.str "digits"))))
    (sRet (eVar 3))))
  sNx)
  (sSeq (sAsg (eOp addD (eOp addD (eOp getD (eVar 0) (eC (.str "fold"))) (eOp mulD (eOp getD (eVar 0) (eC (.str "count"))) (eC (.int 7937)))) (eC (.int 83))) (gNam 4))
  (sRet (eOp modD (eOp fdivD (eCall intD (aCons (eOp modD (eOp powD (eVar 4) (eC (.int 17))) (eC (.int 2305843009213693951))) aNil)) (eC (.int 128))) (eVar 1)))))))
/-- _law_pick(pen, some): 0 pen, 1 some -/
noncomputable def b__law_pick (F : FEnv) : SM :=
  (sRet (eOp getD (eVar 1) (eCall (F ("_law_draw", none)) (aCons (eVar 0) (aCons (eCall lenD (aCons (eVar 1) aNil)) aNil)))))
/-- _law_value(pen): 0 pen -/
noncomputable def b__law_value (F : FEnv) : SM :=
  (sRet (eCall (F ("_law_pick", none)) (aCons (eVar 0) (aCons (eLst (aCons (eC (.str "")) (aCons (eC (.str "a")) (aCons (eC (.int 0)) (aCons (eUn negD (eC (.int 1))) (aCons (eC (.bl true)) (aCons (eC .non) (aCons (eTup aNil) (aCons (eTup (aCons (eC (.str "a")) (aCons (eC (.int 1)) aNil))) (aCons (eLst (aCons (eC (.int 1)) (aCons (eC (.str "b")) aNil))) (aCons (eLst aNil) (aCons (eOp powD (eC (.int 10)) (eC (.int 40))) (aCons (eTup (aCons (eTup (aCons (eC (.str "x")) (aCons (eC (.int 2)) aNil))) (aCons (eC .non) aNil))) aNil))))))))))))) aNil))))
/-- _law_fields(one, names): 0 one, 1 names, 2 found, 3 name -/
noncomputable def b__law_fields (F : FEnv) : SM :=
  (sSeq (sAsg (eLst aNil) (gNam 2))
  (sSeq (sFor (mSrc (eVar 1)) (gNam 3)
  (sIf (tCmp eqD (eVar 3) (eC (.str "line")))
    (sExp (eMeth (mtsT F) "append" (eVar 2) (aCons (eFldX attT exaT "line" (eVar 0)) aNil)))
    (sIf (tCmp eqD (eVar 3) (eC (.str "word")))
      (sExp (eMeth (mtsT F) "append" (eVar 2) (aCons (eFldX attT exaT "word" (eVar 0)) aNil)))
      (sIf (tCmp eqD (eVar 3) (eC (.str "name")))
        (sExp (eMeth (mtsT F) "append" (eVar 2) (aCons (eFldX attT exaT "name" (eVar 0)) aNil)))
        (sIf (tCmp eqD (eVar 3) (eC (.str "what")))
          (sExp (eMeth (mtsT F) "append" (eVar 2) (aCons (eFldX attT exaT "what" (eVar 0)) aNil)))
          (sIf (tCmp eqD (eVar 3) (eC (.str "number")))
            (sExp (eMeth (mtsT F) "append" (eVar 2) (aCons (eFldX attT exaT "number" (eVar 0)) aNil)))
            (sIf (tCmp eqD (eVar 3) (eC (.str "row")))
              (sExp (eMeth (mtsT F) "append" (eVar 2) (aCons (eFldX attT exaT "row" (eVar 0)) aNil)))
              (sIf (tCmp eqD (eVar 3) (eC (.str "many")))
                (sExp (eMeth (mtsT F) "append" (eVar 2) (aCons (eFldX attT exaT "many" (eVar 0)) aNil)))
                (sIf (tCmp eqD (eVar 3) (eC (.str "limit")))
                  (sExp (eMeth (mtsT F) "append" (eVar 2) (aCons (eFldX attT exaT "limit" (eVar 0)) aNil)))
                  (sIf (tCmp eqD (eVar 3) (eC (.str "promise")))
                    (sExp (eMeth (mtsT F) "append" (eVar 2) (aCons (eFldX attT exaT "promise" (eVar 0)) aNil)))
                    (sExp (eMeth (mtsT F) "append" (eVar 2) (aCons (eFldX attT exaT "witness" (eVar 0)) aNil)))))))))))))
  (sRet (eVar 2))))
/-- _law_made_errors(one, two, three): 0 one, 1 two, 2 three, 3 rows -/
noncomputable def b__law_made_errors (F : FEnv) : SM :=
  (sSeq (sAsg (eLst (aCons (eTup (aCons (eExc "BadText" 2 [("line", 1), ("word", 2)] (aCons (eVar 0) (aCons (eVar 1) aNil))) (aCons (eLst (aCons (eC (.str "line")) (aCons (eC (.str "word")) aNil))) aNil))) (aCons (eTup (aCons (eExc "BadName" 1 [("name", 1)] (aCons (eVar 0) aNil)) (aCons (eLst (aCons (eC (.str "name")) aNil)) aNil))) (aCons (eTup (aCons (eExc "BadNumber" 2 [("what", 1), ("number", 2)] (aCons (eVar 0) (aCons (eVar 1) aNil))) (aCons (eLst (aCons (eC (.str "what")) (aCons (eC (.str "number")) aNil))) aNil))) aNil)))) (gNam 3))
  (sSeq (sAsg (eOp addD (eVar 3) (eLst (aCons (eTup (aCons (eExc "BadRow" 2 [("what", 1), ("row", 2)] (aCons (eVar 0) (aCons (eVar 1) aNil))) (aCons (eLst (aCons (eC (.str "what")) (aCons (eC (.str "row")) aNil))) aNil))) (aCons (eTup (aCons (eExc "NoName" 1 [("name", 1)] (aCons (eVar 0) aNil)) (aCons (eLst (aCons (eC (.str "name")) aNil)) aNil))) (aCons (eTup (aCons (eExc "TakenName" 1 [("name", 1)] (aCons (eVar 0) aNil)) (aCons (eLst (aCons (eC (.str "name")) aNil)) aNil))) aNil))))) (gNam 3))
  (sSeq (sAsg (eOp addD (eVar 3) (eLst (aCons (eTup (aCons (eExc "Unlike" 1 [("what", 1)] (aCons (eVar 0) aNil)) (aCons (eLst (aCons (eC (.str "what")) aNil)) aNil))) (aCons (eTup (aCons (eExc "NotThere" 1 [("what", 1)] (aCons (eVar 0) aNil)) (aCons (eLst (aCons (eC (.str "what")) aNil)) aNil))) (aCons (eTup (aCons (eExc "TooMany" 3 [("what", 1), ("many", 2), ("limit", 3)] (aCons (eVar 0) (aCons (eVar 1) (aCons (eVar 2) aNil)))) (aCons (eLst (aCons (eC (.str "what")) (aCons (eC (.str "many")) (aCons (eC (.str "limit")) aNil)))) aNil))) aNil))))) (gNam 3))
  (sRet (eOp addD (eVar 3) (eLst (aCons (eTup (aCons (eExc "NotKept" 2 [("promise", 1), ("witness", 2)] (aCons (eVar 0) (aCons (eVar 1) aNil))) (aCons (eLst (aCons (eC (.str "promise")) (aCons (eC (.str "witness")) aNil))) aNil))) aNil)))))))
/-- _law_kinds(one): 0 one, 1 found -/
noncomputable def b__law_kinds (F : FEnv) : SM :=
  (sSeq (sAsg (eLst (aCons (eIsi subT ["BadText"] (eVar 0)) (aCons (eIsi subT ["BadName"] (eVar 0)) (aCons (eIsi subT ["BadNumber"] (eVar 0)) (aCons (eIsi subT ["BadRow"] (eVar 0)) aNil))))) (gNam 1))
  (sSeq (sAsg (eOp addD (eVar 1) (eLst (aCons (eIsi subT ["NoName"] (eVar 0)) (aCons (eIsi subT ["TakenName"] (eVar 0)) (aCons (eIsi subT ["Unlike"] (eVar 0)) (aCons (eIsi subT ["NotThere"] (eVar 0)) aNil)))))) (gNam 1))
  (sSeq (sAsg (eOp addD (eVar 1) (eLst (aCons (eIsi subT ["TooMany"] (eVar 0)) (aCons (eIsi subT ["NotKept"] (eVar 0)) (aCons (eIsi subT ["NothingToUndo"] (eVar 0)) aNil))))) (gNam 1))
  (sRet (eOp addD (eVar 1) (eLst (aCons (eIsi subT ["NothingToRedo"] (eVar 0)) aNil)))))))
/-- law(script): 0 script, 1 pen, 2 values, 3 at, 4 made, 5 one, 6 names, 7 due, 8 kept, 9 last, 10 found, 11 told, 12 place -/
noncomputable def b_law (F : FEnv) : SM :=
  (sSeq (sAsg (eCall (F ("_law_pen", none)) (aCons (eVar 0) aNil)) (gNam 1))
  (sSeq (sAsg (eLst (aCons (eCall (F ("_law_value", none)) (aCons (eVar 1) aNil)) (aCons (eCall (F ("_law_value", none)) (aCons (eVar 1) aNil)) (aCons (eCall (F ("_law_value", none)) (aCons (eVar 1) aNil)) aNil)))) (gNam 2))
  (sSeq (sFor (mEnu (eOp addD (eCall (F ("_law_made_errors", none)) (aCons (eOp getD (eVar 2) (eC (.int 0))) (aCons (eOp getD (eVar 2) (eC (.int 1))) (aCons (eOp getD (eVar 2) (eC (.int 2))) aNil)))) (eLst (aCons (eTup (aCons (eC (exvOf "NothingToUndo" [])) (aCons (eLst aNil) aNil))) (aCons (eTup (aCons (eC (exvOf "NothingToRedo" [])) (aCons (eLst aNil) aNil))) aNil))))) (gTup [(gNam 3), (gNam 4)])
  (sSeq (sAsg (eVar 4) (gTup [(gNam 5), (gNam 6)]))
    (sSeq (sIf (tOr (tNot (tOf (eIsi subT ["TalkError"] (eVar 5)))) (tNot (tOf (eIsi subT ["ValueError"] (eVar 5)))))
    (sRet (eC (.bl false)))
    sNx)
    (sSeq (sAsg (eSlc (eVar 2) bdN (bdE (eCall lenD (aCons (eVar 6) aNil)))) (gNam 7))
    (sSeq (sIf (tCmp neD (eCall reprD (aCons (eCall (F ("_law_fields", none)) (aCons (eVar 5) (aCons (eVar 6) aNil))) aNil)) (eCall reprD (aCons (eVar 7) aNil)))
    (sRet (eC (.bl false)))
    sNx)
    (sIf (tCmp neD (eCall (F ("_law_kinds", none)) (aCons (eVar 5) aNil)) (eLc (mRng1 (eC (.int 12))) (.one 12) tYesM (eOp eqD (eVar 12) (eVar 3)) [12]))
    (sRet (eC (.bl false)))
    sNx))))))
  (sSeq (sAsg (eLst (aCons (eC (.int 1)) (aCons (eLst (aCons (eC (.int 2)) aNil)) aNil))) (gNam 8))
  (sSeq (sAsg (eExc "BadRow" 2 [("what", 1), ("row", 2)] (aCons (eC (.str "x")) (aCons (eVar 8) aNil))) (gNam 9))
  (sSeq (sExp (eMeth (mtsT F) "append" (eVar 8) (aCons (eC (.int 3)) aNil)))
  (sSeq (sIf (tCmp neD (eFldX attT exaT "row" (eVar 9)) (eLst (aCons (eC (.int 1)) (aCons (eLst (aCons (eC (.int 2)) aNil)) (aCons (eC (.int 3)) aNil)))))
  (sRet (eC (.bl false)))
  sNx)
  (sSeq (sAsg (eLst aNil) (gNam 10))
  (sSeq (sTry exsT (sRaise "NotThere" 1 [("what", 1)] (aCons (eLst (aCons (eC (.int 1)) (aCons (eLst (aCons (eC (.int 2)) aNil)) (aCons (eC (.int 3)) aNil)))) aNil)) [⟨"TalkError", some 11, (sExp (eMeth noMts "append" (eVar 10) (aCons (eAnd (eIsi subT ["ValueError"] (eVar 11)) (eAnd (eIsi subT ["NotThere"] (eVar 11)) (eOp eqD (eFldX attT exaT "what" (eVar 11)) (eLst (aCons (eC (.int 1)) (aCons (eLst (aCons (eC (.int 2)) aNil)) (aCons (eC (.int 3)) aNil))))))) aNil)))⟩])
  (sRet (eOp eqD (eVar 10) (eLst (aCons (eC (.bl true)) aNil)))))))))))))
noncomputable def f__law_pen : Fd := ⟨("_law_pen", none), ⟨("_law_pen", none), "_law_pen", "_law_pen", defArgs (top 15), defBody (top 15), defScope (top 15), [], []⟩, ["script", "fold", "cell"], 1, b__law_pen⟩
noncomputable def f__law_draw : Fd := ⟨("_law_draw", none), ⟨("_law_draw", none), "_law_draw", "_law_draw", defArgs (top 16), defBody (top 16), defScope (top 16), [], []⟩, ["pen", "many", "cell", "digit", "blend"], 2, b__law_draw⟩
noncomputable def f__law_pick : Fd := ⟨("_law_pick", none), ⟨("_law_pick", none), "_law_pick", "_law_pick", defArgs (top 17), defBody (top 17), defScope (top 17), [], []⟩, ["pen", "some"], 2, b__law_pick⟩
noncomputable def f__law_value : Fd := ⟨("_law_value", none), ⟨("_law_value", none), "_law_value", "_law_value", defArgs (top 18), defBody (top 18), defScope (top 18), [], []⟩, ["pen"], 1, b__law_value⟩
noncomputable def f__law_fields : Fd := ⟨("_law_fields", none), ⟨("_law_fields", none), "_law_fields", "_law_fields", defArgs (top 19), defBody (top 19), defScope (top 19), [], []⟩, ["one", "names", "found", "name"], 2, b__law_fields⟩
noncomputable def f__law_made_errors : Fd := ⟨("_law_made_errors", none), ⟨("_law_made_errors", none), "_law_made_errors", "_law_made_errors", defArgs (top 20), defBody (top 20), defScope (top 20), [], []⟩, ["one", "two", "three", "rows"], 3, b__law_made_errors⟩
noncomputable def f__law_kinds : Fd := ⟨("_law_kinds", none), ⟨("_law_kinds", none), "_law_kinds", "_law_kinds", defArgs (top 21), defBody (top 21), defScope (top 21), [], []⟩, ["one", "found"], 1, b__law_kinds⟩
noncomputable def f_law : Fd := ⟨("law", none), ⟨("law", none), "law", "law", defArgs (top 22), defBody (top 22), defScope (top 22), [], []⟩, ["script", "pen", "values", "at", "made", "one", "names", "due", "kept", "last", "found", "told", "place"], 1, b_law⟩
noncomputable def lawD : Ld where
  fs := [f__law_pen, f__law_draw, f__law_pick, f__law_value, f__law_fields, f__law_made_errors, f__law_kinds, f_law]
  xs := xsL
  own := []
  mth := mthL
  att := attL
  exa := exaL
  sub := subL
  exs := exsL
  exc0 := ["NothingToRedo", "NothingToUndo"]
  glb := []
  cls := ["BadName", "BadNumber", "BadRow", "BadText", "NoName", "NotKept", "NotThere", "NothingToRedo", "NothingToUndo", "TakenName", "TalkError", "TooMany", "Unlike", "ValueError"]
  fre := ["enumerate", "int", "isinstance", "len", "list", "range", "repr"]
theorem r__law_pen : (fun F : FEnv => cSs (stN (lawD.tb F) f__law_pen.N (rdN (lawD.tb F) f__law_pen.N 40) 24 ⟨f__law_pen.d.scope, true, fun _ => true⟩) f__law_pen.d.body) = fun F => some (b__law_pen F) := by kernel_rfl
theorem r__law_draw : (fun F : FEnv => cSs (stN (lawD.tb F) f__law_draw.N (rdN (lawD.tb F) f__law_draw.N 40) 24 ⟨f__law_draw.d.scope, true, fun _ => true⟩) f__law_draw.d.body) = fun F => some (b__law_draw F) := by kernel_rfl
theorem r__law_pick : (fun F : FEnv => cSs (stN (lawD.tb F) f__law_pick.N (rdN (lawD.tb F) f__law_pick.N 40) 24 ⟨f__law_pick.d.scope, true, fun _ => true⟩) f__law_pick.d.body) = fun F => some (b__law_pick F) := by kernel_rfl
theorem r__law_value : (fun F : FEnv => cSs (stN (lawD.tb F) f__law_value.N (rdN (lawD.tb F) f__law_value.N 40) 24 ⟨f__law_value.d.scope, true, fun _ => true⟩) f__law_value.d.body) = fun F => some (b__law_value F) := by kernel_rfl
theorem r__law_fields : (fun F : FEnv => cSs (stN (lawD.tb F) f__law_fields.N (rdN (lawD.tb F) f__law_fields.N 40) 24 ⟨f__law_fields.d.scope, true, fun _ => true⟩) f__law_fields.d.body) = fun F => some (b__law_fields F) := by kernel_rfl
theorem r__law_made_errors : (fun F : FEnv => cSs (stN (lawD.tb F) f__law_made_errors.N (rdN (lawD.tb F) f__law_made_errors.N 40) 24 ⟨f__law_made_errors.d.scope, true, fun _ => true⟩) f__law_made_errors.d.body) = fun F => some (b__law_made_errors F) := by kernel_rfl
theorem r__law_kinds : (fun F : FEnv => cSs (stN (lawD.tb F) f__law_kinds.N (rdN (lawD.tb F) f__law_kinds.N 40) 24 ⟨f__law_kinds.d.scope, true, fun _ => true⟩) f__law_kinds.d.body) = fun F => some (b__law_kinds F) := by kernel_rfl
theorem r_law : (fun F : FEnv => cSs (stN (lawD.tb F) f_law.N (rdN (lawD.tb F) f_law.N 40) 24 ⟨f_law.d.scope, true, fun _ => true⟩) f_law.d.body) = fun F => some (b_law F) := by kernel_rfl
theorem reads : Reads2 lawD := fun F f hf => by
  have h : f ∈ [f__law_pen, f__law_draw, f__law_pick, f__law_value, f__law_fields, f__law_made_errors, f__law_kinds, f_law] := hf
  simp only [List.mem_cons, List.not_mem_nil, or_false] at h
  rcases h with rfl | rfl | rfl | rfl | rfl | rfl | rfl | rfl
  · exact congrFun r__law_pen F
  · exact congrFun r__law_draw F
  · exact congrFun r__law_pick F
  · exact congrFun r__law_value F
  · exact congrFun r__law_fields F
  · exact congrFun r__law_made_errors F
  · exact congrFun r__law_kinds F
  · exact congrFun r_law F
theorem wf_ok : lawD.wf = true := by kernel_rfl
end Pi

namespace Pi
open PyProof.Rows PySem L2 PySem.Spec
def loose0 : List PySem.Str := ["TalkError", "BadText", "BadName", "BadNumber", "BadRow", "NoName", "TakenName", "Unlike", "NotThere", "TooMany", "NotKept", "NothingToUndo", "NothingToRedo", "_law_pen", "_law_draw", "_law_pick", "_law_value", "_law_fields", "_law_made_errors", "_law_kinds"]
def looseN : List PySem.Str := loose0
abbrev rowR : PySem.W.OpenRow := PySem.W.OpenLaw.row PySem.Challenge.rw_onebusyline_k01_errors
noncomputable abbrev hkL : PySem.W.Hook := hookP 4 lawD
noncomputable def obL (s : PySem.W.SharedT) : AlP := obsPG 4 lawD (HandSHeadRun.getT s)
theorem ob_eq (s : PySem.W.SharedT) : obL s = hkL.obs s.abs := obsPG_eq (HandSHeadRun.getT_eq s)
theorem run_eq (w : World) : HandSHeadRun.RunEq rowR (PySem.W.view rowR.prog [22]) hkL obL 8000 looseN w := by
  intro os
  kernel_rfl
end Pi

/-! Pm1: evaluating readings; the draws. -/
namespace Pi
open PyProof.Rows PySem L2 PySem.Spec

/-! ### primitives at known values -/
section
variable {A : AH} {i j : Int} {p : Nat}
theorem add_int : addD (.int i) (.int j) A = .ok (.int (i + j)) A := rfl
theorem sub_int : subD (.int i) (.int j) A = .ok (.int (i - j)) A := rfl
theorem mul_int (h : small64 j) : mulD (.int i) (.int j) A = .ok (.int (i * j)) A := by
  show (if small64 i ∨ small64 j then ret (.int (i * j)) else noM : M D) A = _
  rw [if_pos (.inr h)]
  rfl
theorem fdiv_int (h : 0 < j) (h2 : j < 1073741824) : fdivD (.int i) (.int j) A = .ok (.int (i / j)) A := by
  show (if 0 < j ∧ j < 1073741824 then ret (.int (i / j)) else noM : M D) A = _
  rw [if_pos ⟨h, h2⟩]
  rfl
theorem mod_int (h : 0 < j) : modD (.int i) (.int j) A = .ok (.int (i % j)) A := by
  show (if 0 < j then ret (.int (i % j)) else noM : M D) A = _
  rw [if_pos h]
  rfl
theorem pow_int (h : 0 ≤ j) (h1 : j ≤ 1000000) (h2 : i.natAbs < 2 ^ 64) : powD (.int i) (.int j) A = .ok (.int (i ^ j.toNat)) A := by
  show (if 0 ≤ j ∧ j ≤ 1000000 ∧ i.natAbs < 2 ^ 64 then ret (.int (i ^ j.toNat)) else noM : M D) A = _
  rw [if_pos ⟨h, h1, h2⟩]
  rfl
theorem lt_int : ltD (.int i) (.int j) A = .ok (.bl (decide (i < j))) A := rfl
theorem le_int : leD (.int i) (.int j) A = .ok (.bl (decide (i ≤ j))) A := rfl
theorem gt_int : gtD (.int i) (.int j) A = .ok (.bl (decide (j < i))) A := rfl
theorem ge_int : geD (.int i) (.int j) A = .ok (.bl (decide (j ≤ i))) A := rfl
theorem eq_int : eqD (.int i) (.int j) A = .ok (.bl (i == j)) A := rfl
theorem ne_int : neD (.int i) (.int j) A = .ok (.bl (!(i == j))) A := rfl
theorem int_int : intD [.int i] A = .ok (.int i) A := rfl
theorem get_lst {xs : List D} {d : D} (h : A[p]? = some (.lst xs)) (e : atI xs i = some d) : getD (.ref p) (.int i) A = .ok d A := by
  show onRef p _ A = _
  unfold onRef
  rw [h]
  show opt (atI xs i) A = _
  rw [e]
  rfl
theorem get_dic {kvs : List (D × D)} {k d : D} (h : A[p]? = some (.dic kvs)) (hk : dOk k kvs = true) (e : dLook k kvs = some d) : getD (.ref p) k A = .ok d A := by
  show onRef p _ A = _
  unfold onRef
  rw [h]
  show (if dOk k kvs = true then opt (dLook k kvs) else noM : M D) A = _
  rw [if_pos hk, e]
  rfl
theorem set_dic {kvs : List (D × D)} {k v : D} (h : A[p]? = some (.dic kvs)) (hk : dOk k kvs = true) (hl : kvs.length < sizeLine) : setD (.ref p) k v A = .ok () (A.set p (.dic (dPut k v kvs))) := by
  show onRef p _ A = _
  unfold onRef
  rw [h]
  show (if dOk k kvs = true ∧ kvs.length < sizeLine then put p (.dic (dPut k v kvs)) else noM : M Unit) A = _
  rw [if_pos ⟨hk, hl⟩]
  rfl
theorem len_lst {xs : List D} (h : A[p]? = some (.lst xs)) : lenD [.ref p] A = .ok (.int xs.length) A := by
  show opt ((lenB A (.ref p)).map fun (n : Nat) => D.int n) A = _
  unfold lenB
  simp only [h]
  rfl
end
/-! ### the pen -/
def penO (c : Nat) (at_ dg ct fd : Int) : AO := .dic [(.str "cells", .ref c), (.str "at", .int at_), (.str "digits", .int dg), (.str "count", .int ct), (.str "fold", .int fd)]
section
variable {A : AH} {p c : Nat} {at_ dg ct fd v : Int}
theorem pen_ok (k : D) (h : keySort k = 1) : dOk k [(.str "cells", .ref c), (.str "at", .int at_), (.str "digits", .int dg), (.str "count", .int ct), (.str "fold", .int fd)] = true := by
  unfold dOk
  rw [h]
  rfl
theorem pen_sz : [((.str "cells", .ref c) : D × D), (.str "at", .int at_), (.str "digits", .int dg), (.str "count", .int ct), (.str "fold", .int fd)].length < sizeLine := by
  show 5 < sizeLine
  rw [sizeLine_eq]
  omega
theorem pen_cells (h : A[p]? = some (penO c at_ dg ct fd)) : getD (.ref p) (.str "cells") A = .ok (.ref c) A := get_dic h (pen_ok _ rfl) rfl
theorem pen_at (h : A[p]? = some (penO c at_ dg ct fd)) : getD (.ref p) (.str "at") A = .ok (.int at_) A := get_dic h (pen_ok _ rfl) rfl
theorem pen_digits (h : A[p]? = some (penO c at_ dg ct fd)) : getD (.ref p) (.str "digits") A = .ok (.int dg) A := get_dic h (pen_ok _ rfl) rfl
theorem pen_count (h : A[p]? = some (penO c at_ dg ct fd)) : getD (.ref p) (.str "count") A = .ok (.int ct) A := get_dic h (pen_ok _ rfl) rfl
theorem pen_fold (h : A[p]? = some (penO c at_ dg ct fd)) : getD (.ref p) (.str "fold") A = .ok (.int fd) A := get_dic h (pen_ok _ rfl) rfl
theorem put_at (h : A[p]? = some (penO c at_ dg ct fd)) : setD (.ref p) (.str "at") (.int v) A = .ok () (A.set p (penO c v dg ct fd)) := (set_dic h (pen_ok _ rfl) pen_sz).trans rfl
theorem put_digits (h : A[p]? = some (penO c at_ dg ct fd)) : setD (.ref p) (.str "digits") (.int v) A = .ok () (A.set p (penO c at_ v ct fd)) := (set_dic h (pen_ok _ rfl) pen_sz).trans rfl
theorem put_count (h : A[p]? = some (penO c at_ dg ct fd)) : setD (.ref p) (.str "count") (.int v) A = .ok () (A.set p (penO c at_ dg v fd)) := (set_dic h (pen_ok _ rfl) pen_sz).trans rfl
theorem put_fold (h : A[p]? = some (penO c at_ dg ct fd)) : setD (.ref p) (.str "fold") (.int v) A = .ok () (A.set p (penO c at_ dg ct v)) := (set_dic h (pen_ok _ rfl) pen_sz).trans rfl
end

structure Pen (A : AH) (p : Nat) (c : Nat) (ns : List Int) (at_ dg ct fd : Int) : Prop where
  o : A[p]? = some (penO c at_ dg ct fd)
  l : A[c]? = some (.lst (ns.map D.int))
  ne : c ≠ p
  a0 : 0 ≤ at_
  a1 : at_ ≤ ns.length
  d0 : 0 ≤ dg
  c0 : 0 ≤ ct
  f0 : 0 ≤ fd
  f1 : fd < 2147483123
theorem Pen.set {A : AH} {p c : Nat} {ns : List Int} {at_ dg ct fd at' dg' ct' fd' : Int} (h : Pen A p c ns at_ dg ct fd) (a0 : 0 ≤ at') (a1 : at' ≤ ns.length) (d0 : 0 ≤ dg') (c0 : 0 ≤ ct') (f0 : 0 ≤ fd') (f1 : fd' < 2147483123) :
    Pen (A.set p (penO c at' dg' ct' fd')) p c ns at' dg' ct' fd' := by
  have hp := (List.getElem?_eq_some_iff.mp h.o).1
  exact ⟨List.getElem?_set_self hp, by rw [List.getElem?_set_ne (Ne.symm h.ne)]; exact h.l, h.ne, a0, a1, d0, c0, f0, f1⟩
/-! ### the steps of a reading -/
theorem sSeq_nx {a b : SM} {ρ ρ' : Fr} {A A' : AH} (h : a ρ A = .nx ρ' A') : sSeq a b ρ A = b ρ' A' := by unfold sSeq; rw [h]
theorem sSeq_rt {a b : SM} {ρ : Fr} {A A' : AH} {d : D} (h : a ρ A = .rt d A') : sSeq a b ρ A = .rt d A' := by unfold sSeq; rw [h]
theorem sAsg_ok {m : EM} {g : GM} {ρ ρ' : Fr} {A A' A2 : AH} {d : D} (h : m ρ A = .ok d A') (h2 : g d ρ A' = .ok ρ' A2) : sAsg m g ρ A = .nx ρ' A2 := by
  unfold sAsg inE
  simp only [h, h2]
theorem eOp_ok {g : D → D → M D} {a b : EM} {ρ : Fr} {A A1 A2 A3 : AH} {x y z : D} (h : a ρ A = .ok x A1) (h2 : b ρ A1 = .ok y A2) (h3 : g x y A2 = .ok z A3) : eOp g a b ρ A = .ok z A3 := by
  unfold eOp bnd
  simp only [h, h2, h3]
theorem eCall1 {g : FM} {a : EM} {ρ : Fr} {A A1 A2 : AH} {x z : D} (h : a ρ A = .ok x A1) (h3 : g [x] A1 = .ok z A2) : eCall g (aCons a aNil) ρ A = .ok z A2 := by
  unfold eCall aCons aNil bnd
  simp only [h, ret, h3]
theorem eCall2 {g : FM} {a b : EM} {ρ : Fr} {A A1 A2 A3 : AH} {x y z : D} (h : a ρ A = .ok x A1) (h2 : b ρ A1 = .ok y A2) (h3 : g [x, y] A2 = .ok z A3) : eCall g (aCons a (aCons b aNil)) ρ A = .ok z A3 := by
  unfold eCall aCons aNil bnd
  simp only [h, h2, ret, h3]
theorem gPut_ok {o i : EM} {ρ : Fr} {A A1 A2 A3 : AH} {x k v : D} (h : o ρ A = .ok x A1) (h2 : i ρ A1 = .ok k A2) (h3 : setD x k v A2 = .ok () A3) : gPut o i v ρ A = .ok ρ A3 := by
  unfold gPut bnd
  simp only [h, h2, h3, ret]
theorem sIf_t {c : TM} {a b : SM} {ρ : Fr} {A A' : AH} (h : c ρ A = .ok true A') : sIf c a b ρ A = a ρ A' := by
  unfold sIf inE
  simp only [h]
  rfl
theorem sIf_f {c : TM} {a b : SM} {ρ : Fr} {A A' : AH} (h : c ρ A = .ok false A') : sIf c a b ρ A = b ρ A' := by
  unfold sIf inE
  simp only [h]
  rfl
theorem tCmp_ok {g : D → D → M D} {a b : EM} {ρ : Fr} {A A1 A2 A3 : AH} {x y : D} {k : Bool} (h : a ρ A = .ok x A1) (h2 : b ρ A1 = .ok y A2) (h3 : g x y A2 = .ok (.bl k) A3) : tCmp g a b ρ A = .ok k A3 := by
  unfold tCmp bnd
  simp only [h, h2, h3]
  rfl
theorem tAnd_f {a b : TM} {ρ : Fr} {A A' : AH} (h : a ρ A = .ok false A') : tAnd a b ρ A = .ok false A' := by
  unfold tAnd bnd
  simp only [h]
  rfl
theorem tAnd_t {a b : TM} {ρ : Fr} {A A' : AH} (h : a ρ A = .ok true A') : tAnd a b ρ A = b ρ A' := by
  unfold tAnd bnd
  simp only [h]
  rfl
theorem sRet_ok {m : EM} {ρ : Fr} {A A' : AH} {d : D} (h : m ρ A = .ok d A') : sRet m ρ A = .rt d A' := by
  unfold sRet inE
  simp only [h]
theorem runB_rt {L : Nat} {b : SM} {ds : List D} {A A' : AH} {d : D} (h : b (ds.map some ++ List.replicate (L - ds.length) none) A = .rt d A') : runB L b ds A = .ok d A' := by
  unfold runB
  rw [h]
end Pi

/-! Pm2: what a draw gives. -/
namespace Pi
open PyProof.Rows PySem L2 PySem.Spec

theorem atI_in {xs : List D} {i : Int} (h0 : 0 ≤ i) (h1 : i < xs.length) : ∃ d, atI xs i = some d ∧ d ∈ xs := by
  have hl : i.toNat < xs.length := by omega
  refine ⟨xs[i.toNat], ?_, List.getElem_mem hl⟩
  unfold atI ixN
  rw [if_pos h0, if_pos h1]
  exact List.getElem?_eq_getElem hl
theorem atI_ints {ns : List Int} {i : Int} (h0 : 0 ≤ i) (h1 : i < ns.length) : ∃ v, atI (ns.map D.int) i = some (.int v) := by
  obtain ⟨d, e, m⟩ := atI_in (xs := ns.map D.int) h0 (by rw [List.length_map]; exact h1)
  obtain ⟨v, _, rfl⟩ := List.mem_map.mp m
  exact ⟨v, e⟩
theorem two64 : (2 : Int) ^ 64 = 18446744073709551616 := by decide
theorem small_of {j : Int} (h : -1000000000000 < j ∧ j < 1000000000000) : small64 j := by
  unfold small64
  rw [two64]
  omega
theorem pow18 : (10 : Int) ^ (18 : Int).toNat = 1000000000000000000 := by decide
def frD (p : Nat) (m : Int) (o : Option D) : Fr := [some (.ref p), some (.int m), o, none, none]
theorem v0 {p : Nat} {m : Int} {o : Option D} {A : AH} : eVar 0 (frD p m o) A = .ok (.ref p) A := rfl
theorem v1 {p : Nat} {m : Int} {o : Option D} {A : AH} : eVar 1 (frD p m o) A = .ok (.int m) A := rfl
theorem v2 {p : Nat} {m : Int} {d : D} {A : AH} : eVar 2 (frD p m (some d)) A = .ok d A := rfl
theorem kC {d : D} {ρ : Fr} {A : AH} : eC d ρ A = .ok d A := rfl
theorem p18 {ρ : Fr} {A : AH} : eOp powD (eC (.int 10)) (eC (.int 18)) ρ A = .ok (.int 1000000000000000000) A := eOp_ok kC kC ((pow_int (by decide) (by decide) (by decide)).trans (by rw [pow18]))
section
variable {A : AH} {p c : Nat} {ns : List Int} {at_ dg ct fd m : Int} {o : Option D}
theorem g_cells (h : Pen A p c ns at_ dg ct fd) : eOp getD (eVar 0) (eC (.str "cells")) (frD p m o) A = .ok (.ref c) A := eOp_ok v0 kC (pen_cells h.o)
theorem g_at (h : Pen A p c ns at_ dg ct fd) : eOp getD (eVar 0) (eC (.str "at")) (frD p m o) A = .ok (.int at_) A := eOp_ok v0 kC (pen_at h.o)
theorem g_digits (h : Pen A p c ns at_ dg ct fd) : eOp getD (eVar 0) (eC (.str "digits")) (frD p m o) A = .ok (.int dg) A := eOp_ok v0 kC (pen_digits h.o)
theorem g_count (h : Pen A p c ns at_ dg ct fd) : eOp getD (eVar 0) (eC (.str "count")) (frD p m o) A = .ok (.int ct) A := eOp_ok v0 kC (pen_count h.o)
theorem g_fold (h : Pen A p c ns at_ dg ct fd) : eOp getD (eVar 0) (eC (.str "fold")) (frD p m o) A = .ok (.int fd) A := eOp_ok v0 kC (pen_fold h.o)
/-- the second part: the next cell is taken, if one is wanted -/
theorem draw_cell (h : Pen A p c ns at_ dg ct fd) : ∃ o' at' dg' fd', Pen (A.set p (penO c at' dg' ct fd')) p c ns at' dg' ct fd' ∧
    (sIf (tAnd (tCmp eqD (eOp getD (eVar 0) (eC (.str "digits"))) (eC (.int 0))) (tCmp ltD (eOp getD (eVar 0) (eC (.str "at"))) (eCall lenD (aCons (eOp getD (eVar 0) (eC (.str "cells"))) aNil))))
      (sSeq (sAsg (eOp getD (eOp getD (eVar 0) (eC (.str "cells"))) (eOp getD (eVar 0) (eC (.str "at")))) (gNam 2))
        (sSeq (sAsg (eOp addD (eOp getD (eVar 0) (eC (.str "at"))) (eC (.int 1))) (gPut (eVar 0) (eC (.str "at"))))
        (sIf (tCmp geD (eVar 2) (eOp powD (eC (.int 10)) (eC (.int 18))))
        (sAsg (eOp subD (eVar 2) (eOp powD (eC (.int 10)) (eC (.int 18)))) (gPut (eVar 0) (eC (.str "digits"))))
        (sAsg (eOp modD (eCall intD (aCons (eOp addD (eOp mulD (eOp getD (eVar 0) (eC (.str "fold"))) (eC (.int 70121))) (eVar 2)) aNil)) (eC (.int 2147483123))) (gPut (eVar 0) (eC (.str "fold")))))))
      sNx) (frD p m none) A = .nx (frD p m o') (A.set p (penO c at' dg' ct fd')) := by
  have same : A.set p (penO c at_ dg ct fd) = A := by
    have hp := List.getElem?_eq_some_iff.mp h.o
    rw [← hp.2]
    exact List.set_getElem_self hp.1
  have no : ∃ o' at' dg' fd', Pen (A.set p (penO c at' dg' ct fd')) p c ns at' dg' ct fd' ∧ RS.nx (frD p m none) A = .nx (frD p m o') (A.set p (penO c at' dg' ct fd')) :=
    ⟨none, at_, dg, fd, by rw [same]; exact h, by rw [same]⟩
  have hlen : eCall lenD (aCons (eOp getD (eVar 0) (eC (.str "cells"))) aNil) (frD p m none) A = .ok (.int ns.length) A := eCall1 (g_cells h) ((len_lst h.l).trans (by rw [List.length_map]))
  by_cases h0 : dg = 0
  · by_cases h1 : at_ < ns.length
    · have ht : tAnd (tCmp eqD (eOp getD (eVar 0) (eC (.str "digits"))) (eC (.int 0))) (tCmp ltD (eOp getD (eVar 0) (eC (.str "at"))) (eCall lenD (aCons (eOp getD (eVar 0) (eC (.str "cells"))) aNil))) (frD p m none) A = .ok true A := by
        rw [tAnd_t (tCmp_ok (g_digits h) kC (eq_int.trans (by rw [h0]; rfl)))]
        exact tCmp_ok (g_at h) hlen (lt_int.trans (by rw [decide_eq_true h1]))
      rw [sIf_t ht]
      obtain ⟨v, hv⟩ := atI_ints (ns := ns) h.a0 h1
      rw [sSeq_nx (sAsg_ok (ρ' := frD p m (some (.int v))) (eOp_ok (g_cells h) (g_at h) (get_lst h.l hv)) rfl)]
      have h2 : Pen (A.set p (penO c (at_ + 1) dg ct fd)) p c ns (at_ + 1) dg ct fd := h.set (by have := h.a0; omega) (by omega) h.d0 h.c0 h.f0 h.f1
      rw [sSeq_nx (sAsg_ok (eOp_ok (g_at h) kC add_int) (gPut_ok v0 kC (put_at h.o)))]
      by_cases hv2 : 1000000000000000000 ≤ v
      · rw [sIf_t (tCmp_ok v2 p18 (ge_int.trans (by rw [decide_eq_true hv2])))]
        refine ⟨some (.int v), at_ + 1, v - 1000000000000000000, fd, ?_, ?_⟩
        · exact h.set (by have := h.a0; omega) (by omega) (by omega) h.c0 h.f0 h.f1
        · rw [sAsg_ok (eOp_ok v2 p18 sub_int) (gPut_ok v0 kC (put_digits h2.o)), List.set_set]
      · rw [sIf_f (tCmp_ok v2 p18 (ge_int.trans (by rw [decide_eq_false hv2])))]
        refine ⟨some (.int v), at_ + 1, dg, (fd * 70121 + v) % 2147483123, ?_, ?_⟩
        · exact h.set (by have := h.a0; omega) (by omega) h.d0 h.c0 (Int.emod_nonneg _ (by decide)) (Int.emod_lt_of_pos _ (by decide))
        · rw [sAsg_ok (eOp_ok (eCall1 (eOp_ok (eOp_ok (g_fold h2) kC (mul_int (small_of (by decide)))) v2 add_int) int_int) kC (mod_int (by decide))) (gPut_ok v0 kC (put_fold h2.o)), List.set_set]
    · rw [sIf_f (by
        rw [tAnd_t (tCmp_ok (g_digits h) kC (eq_int.trans (by rw [h0]; rfl)))]
        exact tCmp_ok (g_at h) hlen (lt_int.trans (by rw [decide_eq_false h1])))]
      exact no
  · rw [sIf_f (tAnd_f (tCmp_ok (g_digits h) kC (eq_int.trans (by rw [show (dg == 0) = false from beq_eq_false_iff_ne.mpr h0]))))]
    exact no
end
theorem draw_spec {F : FEnv} {A : AH} {p c : Nat} {ns : List Int} {at_ dg ct fd m : Int} (h : Pen A p c ns at_ dg ct fd) (hc : ct < 1000000000000) (hm : 0 < m) (hm2 : m < 1073741824) :
    ∃ d at' dg' fd', 0 ≤ d ∧ d < m ∧ Pen (A.set p (penO c at' dg' (ct + 1) fd')) p c ns at' dg' (ct + 1) fd' ∧ runB 5 (b__law_draw F) [.ref p, .int m] A = .ok (.int d) (A.set p (penO c at' dg' (ct + 1) fd')) := by
  have h1 : Pen (A.set p (penO c at_ dg (ct + 1) fd)) p c ns at_ dg (ct + 1) fd := h.set h.a0 h.a1 h.d0 (by have := h.c0; omega) h.f0 h.f1
  obtain ⟨o', at', dg', fd', h2, e2⟩ := draw_cell (m := m) h1
  rw [List.set_set] at h2 e2
  have e1 : sAsg (eOp addD (eOp getD (eVar 0) (eC (.str "count"))) (eC (.int 1))) (gPut (eVar 0) (eC (.str "count"))) (frD p m none) A = .nx (frD p m none) (A.set p (penO c at_ dg (ct + 1) fd)) :=
    sAsg_ok (eOp_ok (g_count h) kC add_int) (gPut_ok v0 kC (put_count h.o))
  by_cases hd : 0 < dg'
  · refine ⟨dg' % m, at', dg' / m, fd', Int.emod_nonneg _ (by omega), Int.emod_lt_of_pos _ hm, ?_, runB_rt ?_⟩
    · have := h2.set (at' := at') (dg' := dg' / m) (ct' := ct + 1) (fd' := fd') h2.a0 h2.a1 (Int.ediv_nonneg h2.d0 (by omega)) h2.c0 h2.f0 h2.f1
      rw [List.set_set] at this
      exact this
    · show b__law_draw F (frD p m none) A = _
      unfold b__law_draw
      rw [sSeq_nx e1, sSeq_nx e2]
      apply sSeq_rt
      rw [sIf_t (tCmp_ok (g_digits h2) kC (gt_int.trans (by rw [decide_eq_true hd])))]
      rw [sSeq_nx (sAsg_ok (ρ' := [some (.ref p), some (.int m), o', some (.int (dg' % m)), none]) (eOp_ok (eCall1 (g_digits h2) int_int) v1 (mod_int hm)) rfl)]
      rw [sSeq_nx (sAsg_ok (eOp_ok (eOp_ok rfl kC (pen_digits h2.o)) rfl (fdiv_int hm hm2)) (gPut_ok rfl kC (put_digits h2.o))), List.set_set]
      exact sRet_ok rfl
  · have hb : (fd' + (ct + 1) * 7937 + 83).natAbs < 2 ^ 64 := by
      have := h2.f0; have := h2.f1; have := h.c0
      have : (2 : Nat) ^ 64 = 18446744073709551616 := by decide
      omega
    refine ⟨(fd' + (ct + 1) * 7937 + 83) ^ 17 % 2305843009213693951 / 128 % m, at', dg', fd', Int.emod_nonneg _ (by omega), Int.emod_lt_of_pos _ hm, h2, runB_rt ?_⟩
    show b__law_draw F (frD p m none) A = _
    unfold b__law_draw
    rw [sSeq_nx e1, sSeq_nx e2]
    rw [sSeq_nx (ρ' := frD p m o') (A' := A.set p (penO c at' dg' (ct + 1) fd')) (by
      rw [sIf_f (tCmp_ok (g_digits h2) kC (gt_int.trans (by rw [decide_eq_false hd])))]
      rfl)]
    rw [sSeq_nx (sAsg_ok (ρ' := [some (.ref p), some (.int m), o', none, some (.int (fd' + (ct + 1) * 7937 + 83))]) (eOp_ok (eOp_ok (g_fold h2) (eOp_ok (g_count h2) kC (mul_int (small_of (by decide)))) add_int) kC add_int) rfl)]
    exact sRet_ok (eOp_ok (eOp_ok (eCall1 (eOp_ok (eOp_ok rfl kC (pow_int (by decide) (by decide) hb)) kC (mod_int (by decide))) int_int) kC (fdiv_int (by decide) (by decide))) rfl (mod_int hm))
end Pi

/-! Pm3: loops and comprehensions, evaluated; the pen. -/
namespace Pi
open PyProof.Rows PySem L2 PySem.Spec

theorem forN_up {s : Src} {g : GM} {b : SM} : ∀ {n i : Nat} {ρ : Fr} {A : AH}, forN s g b n i ρ A ≠ .no → forN s g b (n + 1) i ρ A = forN s g b n i ρ A
  | 0, i, ρ, A, h => absurd rfl h
  | n + 1, i, ρ, A, h => by
    unfold forN at h ⊢
    cases e1 : s i A with
    | none => simp only [e1] at h; exact absurd rfl h
    | some o =>
      simp only [e1] at h ⊢
      cases o with
      | none => rfl
      | some d =>
        simp only at h ⊢
        cases e2 : g d ρ A with
        | ex c fs A1 => rfl
        | no => rfl
        | ok ρ1 A1 =>
          simp only [e2] at h ⊢
          cases e3 : b ρ1 A1 with
          | nx ρ' A' => simp only [e3] at h ⊢; exact forN_up h
          | ct ρ' A' => simp only [e3] at h ⊢; exact forN_up h
          | _ => rfl
theorem up_le {f : Nat → SM} {ρ : Fr} {A : AH} (up : ∀ n, f n ρ A ≠ .no → f (n + 1) ρ A = f n ρ A) {n : Nat} (h : f n ρ A ≠ .no) : ∀ k, f (n + k) ρ A = f n ρ A
  | 0 => rfl
  | k + 1 => by
    have ih := up_le up h k
    rw [← Nat.add_assoc, up _ (by rw [ih]; exact h), ih]
theorem lim_eq {f : Nat → SM} {ρ : Fr} {A : AH} {r : RS} (up : ∀ n, f n ρ A ≠ .no → f (n + 1) ρ A = f n ρ A) {n : Nat} (h : f n ρ A = r) (hr : r ≠ .no) : lim f ρ A = r := by
  have ex : ∃ n, f n ρ A ≠ .no := ⟨n, by rw [h]; exact hr⟩
  unfold lim
  rw [dif_pos ex]
  have hm := Classical.choose_spec ex
  generalize Classical.choose ex = m at hm ⊢
  rcases Nat.le_total m n with q | q
  · obtain ⟨k, rfl⟩ := Nat.exists_eq_add_of_le q
    rw [← h, up_le up hm k]
  · obtain ⟨k, rfl⟩ := Nat.exists_eq_add_of_le q
    rw [up_le up (by rw [h]; exact hr) k, h]
/-- a loop whose every turn goes through -/
theorem for_inv {s : Src} {g : GM} {b : SM} {xs : List D} (I : Nat → Fr → AH → Prop) (hs : ∀ i ρ A, I i ρ A → s i A = some xs[i]?)
    (step : ∀ i d ρ A, xs[i]? = some d → I i ρ A → ∃ ρ1 A1 ρ2 A2, g d ρ A = .ok ρ1 A1 ∧ (b ρ1 A1 = .nx ρ2 A2 ∨ b ρ1 A1 = .ct ρ2 A2) ∧ I (i + 1) ρ2 A2) {ρ : Fr} {A : AH} (h0 : I 0 ρ A) :
    ∃ ρ' A', lim (fun n => forN s g b n 0) ρ A = .nx ρ' A' ∧ I xs.length ρ' A' := by
  have go : ∀ k i ρ A, i + k = xs.length → I i ρ A → ∃ ρ' A', forN s g b (k + 1) i ρ A = .nx ρ' A' ∧ I xs.length ρ' A' := by
    intro k
    induction k with
    | zero =>
      intro i ρ A hi h
      have hi : i = xs.length := hi
      refine ⟨ρ, A, ?_, hi ▸ h⟩
      unfold forN
      rw [hs i ρ A h, List.getElem?_eq_none (Nat.le_of_eq hi.symm)]
    | succ k ih =>
      intro i ρ A hi h
      have hl : i < xs.length := by omega
      obtain ⟨ρ1, A1, ρ2, A2, e1, e2, h2⟩ := step i _ ρ A (List.getElem?_eq_getElem hl) h
      obtain ⟨ρ', A', e3, h3⟩ := ih (i + 1) ρ2 A2 (by omega) h2
      refine ⟨ρ', A', ?_, h3⟩
      unfold forN
      rw [hs i ρ A h, List.getElem?_eq_getElem hl]
      simp only [e1]
      rcases e2 with e2 | e2
      · simp only [e2]
        exact e3
      · simp only [e2]
        exact e3
  obtain ⟨ρ', A', e, h⟩ := go xs.length 0 ρ A (by omega) h0
  exact ⟨ρ', A', lim_eq (fun n q => forN_up q) e (by simp), h⟩
theorem sFor_ok {ms : Fr → M Src} {s : Src} {g : GM} {b : SM} {ρ : Fr} {A A' : AH} (h : ms ρ A = .ok s A') : sFor ms g b ρ A = lim (fun n => forN s g b n 0) ρ A' := by
  unfold sFor inE
  simp only [h]
/-! ### comprehensions -/
theorem compN_up {s : Src} {tg : Tgt} {tt : TM} {te : EM} {ρ : Fr} : ∀ {n i : Nat} {acc : List D} {A : AH}, compN s tg tt te ρ n i acc A ≠ .no → compN s tg tt te ρ (n + 1) i acc A = compN s tg tt te ρ n i acc A
  | 0, i, acc, A, h => absurd rfl h
  | n + 1, i, acc, A, h => by
    unfold compN at h ⊢
    cases e1 : s i A with
    | none => simp only [e1] at h; exact absurd rfl h
    | some o =>
      simp only [e1] at h ⊢
      cases o with
      | none => rfl
      | some d =>
        simp only at h ⊢
        cases e2 : bindT A d ρ tg with
        | none => rfl
        | some ρ1 =>
          simp only [e2] at h ⊢
          cases e3 : tt ρ1 A with
          | ex c fs A1 => rfl
          | no => rfl
          | ok k A1 =>
            cases k with
            | false => simp only [e3] at h ⊢; exact compN_up h
            | true =>
              simp only [e3] at h ⊢
              cases e4 : te ρ1 A1 with
              | ex c fs A2 => rfl
              | no => rfl
              | ok y A2 =>
                simp only [e4] at h ⊢
                split
                · rename_i hl
                  rw [if_pos hl] at h
                  exact compN_up h
                · rfl
theorem limR_eq {α : Type} {f : Nat → R α} {r : R α} (up : ∀ n, f n ≠ .no → f (n + 1) = f n) {n : Nat} (h : f n = r) (hr : r ≠ .no) : limR f = r := by
  have ex : ∃ n, f n ≠ .no := ⟨n, by rw [h]; exact hr⟩
  have le : ∀ {n : Nat}, f n ≠ .no → ∀ k, f (n + k) = f n := by
    intro n hn k
    induction k with
    | zero => rfl
    | succ k ih => rw [← Nat.add_assoc, up _ (by rw [ih]; exact hn), ih]
  unfold limR
  rw [dif_pos ex]
  have hm := Classical.choose_spec ex
  generalize Classical.choose ex = m at hm ⊢
  rcases Nat.le_total m n with q | q
  · obtain ⟨k, rfl⟩ := Nat.exists_eq_add_of_le q
    rw [← h, le hm k]
  · obtain ⟨k, rfl⟩ := Nat.exists_eq_add_of_le q
    rw [le (by rw [h]; exact hr) k, h]
/-- a comprehension whose parts change nothing -/
theorem comp_pure {s : Src} {tg : Tgt} {tt : TM} {te : EM} {ρ : Fr} {A : AH} {xs : List D} {p : D → Bool} {f : D → D} (hs : ∀ i, s i A = some xs[i]?) (hl : xs.length ≤ sizeLine)
    (ht : ∀ d ∈ xs, ∃ ρ1, bindT A d ρ tg = some ρ1 ∧ tt ρ1 A = .ok (p d) A ∧ (p d = true → te ρ1 A = .ok (f d) A)) :
    limR (fun n => compN s tg tt te ρ n 0 [] A) = .ok ((xs.filter p).map f) A := by
  have go : ∀ k i acc, i + k = xs.length → acc = ((xs.take i).filter p).map f → compN s tg tt te ρ (k + 1) i acc A = .ok ((xs.filter p).map f) A := by
    intro k
    induction k with
    | zero =>
      intro i acc hi ha
      have hi : i = xs.length := hi
      unfold compN
      rw [hs, List.getElem?_eq_none (Nat.le_of_eq hi.symm), ha, hi, List.take_length]
    | succ k ih =>
      intro i acc hi ha
      have hx : i < xs.length := by omega
      obtain ⟨ρ1, e1, e2, e3⟩ := ht _ (List.getElem_mem hx)
      have tk : xs.take (i + 1) = xs.take i ++ [xs[i]] := by rw [List.take_succ, List.getElem?_eq_getElem hx]; rfl
      have la : acc.length < sizeLine := by
        rw [ha, List.length_map]
        have h1 := List.length_filter_le p (xs.take i)
        rw [List.length_take] at h1
        omega
      unfold compN
      rw [hs, List.getElem?_eq_getElem hx]
      simp only [e1, e2]
      cases ep : p xs[i] with
      | false =>
        simp only
        refine ih (i + 1) acc (by omega) ?_
        rw [ha, tk, List.filter_append]
        simp [ep]
      | true =>
        simp only [e3 ep, if_pos la]
        refine ih (i + 1) _ (by omega) ?_
        rw [ha, tk, List.filter_append]
        simp [ep]
  exact limR_eq (fun n q => compN_up q) (go xs.length 0 [] (by omega) rfl) (by simp)
end Pi

/-! Pm4: the pen, picks. -/
namespace Pi
open PyProof.Rows PySem L2 PySem.Spec

theorem small_sz {n : Nat} (h : n ≤ 1000) : n ≤ sizeLine := by
  rw [sizeLine_eq]
  omega
theorem new_at {A : AH} {o : AO} : new o A = .ok (.ref A.length) (A ++ [o]) := rfl
theorem app_l {A B : AH} {i : Nat} {o : AO} (h : A[i]? = some o) : (A ++ B)[i]? = some o := by
  rw [List.getElem?_append_left (List.getElem?_eq_some_iff.mp h).1]
  exact h
theorem app_r {A B : AH} {i : Nat} : (A ++ B)[A.length + i]? = B[i]? := by
  rw [List.getElem?_append_right (Nat.le_add_right _ _), Nat.add_sub_cancel_left]
theorem app_0 {A B : AH} : (A ++ B)[A.length]? = B[0]? := app_r (i := 0)
theorem aNil_ok {ρ : Fr} {A : AH} : aNil ρ A = .ok [] A := rfl
theorem aCons_ok {e : EM} {t : AM} {ρ : Fr} {A A1 A2 : AH} {d : D} {ds : List D} (h : e ρ A = .ok d A1) (h2 : t ρ A1 = .ok ds A2) : aCons e t ρ A = .ok (d :: ds) A2 := by
  unfold aCons bnd
  simp only [h, h2, ret]
theorem eLst_ok {t : AM} {ρ : Fr} {A A1 : AH} {ds : List D} (h : t ρ A = .ok ds A1) (hl : ds.length ≤ 1000) : eLst t ρ A = .ok (.ref A1.length) (A1 ++ [.lst ds]) := by
  unfold eLst eAll bnd
  simp only [h, if_pos (small_sz hl)]
  rfl
theorem eTup_ok {t : AM} {ρ : Fr} {A A1 : AH} {ds : List D} (h : t ρ A = .ok ds A1) (hl : ds.length ≤ 1000) : eTup t ρ A = .ok (.tup ds) A1 := by
  unfold eTup eAll bnd
  simp only [h, if_pos (small_sz hl)]
  rfl
theorem eCall_ok {g : FM} {t : AM} {ρ : Fr} {A A1 : AH} {ds : List D} (h : t ρ A = .ok ds A1) : eCall g t ρ A = g ds A1 := by
  unfold eCall bnd
  simp only [h]
theorem runB_nx {L : Nat} {b : SM} {ds : List D} {ρ : Fr} {A A' : AH} (h : b (ds.map some ++ List.replicate (L - ds.length) none) A = .nx ρ A') : runB L b ds A = .ok .non A' := by
  unfold runB
  rw [h]
/-! ### the pen -/
theorem pen_spec {F : FEnv} {A : AH} {ns : List Int} (hl : ns.length ≤ 63) :
    ∃ fd, Pen (A ++ [.lst (ns.map D.int), penO A.length 0 0 0 fd]) (A.length + 1) A.length ns 0 0 0 fd ∧ runB 3 (b__law_pen F) [.frl (ns.map D.int)] A = .ok (.ref (A.length + 1)) (A ++ [.lst (ns.map D.int), penO A.length 0 0 0 fd]) := by
  have step : ∃ ρ' A', sFor (mSrc (eVar 0)) (gNam 2) (sAsg (eOp modD (eCall intD (aCons (eOp addD (eOp mulD (eVar 1) (eC (.int 151))) (eVar 2)) aNil)) (eC (.int 1000000459))) (gNam 1)) [some (.frl (ns.map D.int)), some (.int 47), none] A = .nx ρ' A' ∧
      (A' = A ∧ ∃ fd o, 0 ≤ fd ∧ fd < 2147483123 ∧ ρ' = [some (.frl (ns.map D.int)), some (.int fd), o]) := by
    rw [sFor_ok (s := srcL (ns.map D.int)) (A' := A) rfl]
    refine for_inv (s := srcL (ns.map D.int)) (xs := ns.map D.int) (fun i ρ A' => A' = A ∧ ∃ fd o, 0 ≤ fd ∧ fd < 2147483123 ∧ ρ = [some (.frl (ns.map D.int)), some (.int fd), o]) (fun i ρ A' _ => rfl) ?_ ⟨rfl, 47, none, by decide, by decide, rfl⟩
    rintro i d ρ A' hd ⟨rfl, fd, o, h0, h1, rfl⟩
    rw [List.getElem?_map] at hd
    obtain ⟨v, _, rfl⟩ := Option.map_eq_some_iff.mp hd
    refine ⟨_, _, _, _, rfl, .inl (sAsg_ok (eOp_ok (eCall1 (eOp_ok (eOp_ok rfl kC (mul_int (small_of (by decide)))) rfl add_int) int_int) kC (mod_int (by decide))) rfl), rfl, (fd * 151 + v) % 1000000459, some (.int v), Int.emod_nonneg _ (by decide), ?_, rfl⟩
    exact Int.lt_trans (Int.emod_lt_of_pos _ (by decide)) (by decide)
  obtain ⟨ρ', A', e, rfl, fd, o, f0, f1, rfl⟩ := step
  refine ⟨fd, ⟨app_r (i := 1), app_0, by omega, by decide, by omega, by decide, by decide, f0, f1⟩, runB_rt ?_⟩
  show b__law_pen F [some (.frl (ns.map D.int)), none, none] A' = _
  unfold b__law_pen
  rw [sSeq_nx (sAsg_ok (ρ' := [some (.frl (ns.map D.int)), some (.int 47), none]) kC rfl), sSeq_nx e]
  apply sRet_ok
  have hc : eCall listD (aCons (eVar 0) aNil) [some (.frl (ns.map D.int)), some (.int fd), o] A' = .ok (.ref A'.length) (A' ++ [.lst (ns.map D.int)]) := rfl
  unfold eDisp evP bnd
  simp only [kC, hc, evP, bnd, ret]
  show new (.dic _) (A' ++ [.lst (ns.map D.int)]) = _
  rw [new_at, List.length_append, List.append_assoc]
  rfl
/-! ### a pick -/
theorem pick_spec {F F' : FEnv} (hF : F ("_law_draw", none) = runB 5 (b__law_draw F')) {A : AH} {p c l : Nat} {ns : List Int} {at_ dg ct fd : Int} {xs : List D} (h : Pen A p c ns at_ dg ct fd) (hc : ct < 1000000000000) (hl : A[l]? = some (.lst xs)) (h0 : 0 < xs.length) (h1 : xs.length < 1073741824) :
    ∃ d at' dg' fd', d ∈ xs ∧ Pen (A.set p (penO c at' dg' (ct + 1) fd')) p c ns at' dg' (ct + 1) fd' ∧ runB 2 (b__law_pick F) [.ref p, .ref l] A = .ok d (A.set p (penO c at' dg' (ct + 1) fd')) := by
  obtain ⟨i, at', dg', fd', i0, i1, h2, e⟩ := draw_spec (F := F') h hc (m := (xs.length : Int)) (by omega) (by omega)
  have ne : l ≠ p := fun z => by
    rw [z, h.o] at hl
    cases hl
  have hl2 : (A.set p (penO c at' dg' (ct + 1) fd'))[l]? = some (.lst xs) := by rw [List.getElem?_set_ne (Ne.symm ne)]; exact hl
  obtain ⟨d, ed, md⟩ := atI_in i0 i1
  refine ⟨d, at', dg', fd', md, h2, runB_rt ?_⟩
  show b__law_pick F [some (.ref p), some (.ref l)] A = _
  unfold b__law_pick
  refine sRet_ok (eOp_ok (A1 := A) (x := .ref l) rfl (eCall2 (A1 := A) (x := .ref p) rfl (eCall1 (A1 := A) (x := .ref l) rfl (len_lst hl)) ?_) (get_lst hl2 ed))
  rw [hF]
  exact e
end Pi

/-! Pm5: k01: drawn values, what they show. -/
namespace Pi
open PyProof.Rows PySem L2 PySem.Spec

theorem Pen.app {A B : AH} {p c : Nat} {ns : List Int} {at_ dg ct fd : Int} (h : Pen A p c ns at_ dg ct fd) : Pen (A ++ B) p c ns at_ dg ct fd :=
  ⟨app_l h.o, app_l h.l, h.ne, h.a0, h.a1, h.d0, h.c0, h.f0, h.f1⟩
def L12 : AO := .lst [.int 1, .str "b"]
def LE0 : AO := .lst []
def valL (k : Nat) : List D := [.str "", .str "a", .int 0, .int (-1), .bl true, .non, .tup [], .tup [.str "a", .int 1], .ref k, .ref (k + 1), .int (10 ^ 40), .tup [.tup [.str "x", .int 2], .non]]
/-- a drawn value, its lists in the heap -/
def Val (A : AH) (d : D) : Prop := ∃ k, d ∈ valL k ∧ A[k]? = some L12 ∧ A[k + 1]? = some LE0
theorem Val.app {A B : AH} {d : D} (h : Val A d) : Val (A ++ B) d := by
  obtain ⟨k, m, h1, h2⟩ := h
  exact ⟨k, m, app_l h1, app_l h2⟩
theorem Val.set {A : AH} {d : D} {p : Nat} {c : Nat} {a b e f : Int} {o : AO} (h : Val A d) (hp : A[p]? = some (penO c a b e f)) : Val (A.set p o) d := by
  obtain ⟨k, m, h1, h2⟩ := h
  refine ⟨k, m, ?_, ?_⟩
  · rw [List.getElem?_set_ne (fun z => by rw [← z, hp] at h1; cases h1)]
    exact h1
  · rw [List.getElem?_set_ne (fun z => by rw [← z, hp] at h2; cases h2)]
    exact h2
def PV : List PyData := [.str "", .str "a", .int 0, .int (-1), .bool true, .none, .tuple [], .tuple [.str "a", .int 1], .list [.int 1, .str "b"], .list [], .int (10 ^ 40), .tuple [.tuple [.str "x", .int 2], .none]]
theorem val_py {A : AH} {d : D} (h : Val A d) : ∃ q ∈ PV, D.py (lkH A 7) d = some q := by
  obtain ⟨k, m, h1, h2⟩ := h
  have e1 : lkH A 7 k = some (.list [.int 1, .str "b"]) := by
    unfold lkH
    rw [h1]
    rfl
  have e2 : lkH A 7 (k + 1) = some (.list []) := by
    unfold lkH
    rw [h2]
    rfl
  unfold valL at m
  simp only [List.mem_cons, List.not_mem_nil, or_false] at m
  rcases m with rfl | rfl | rfl | rfl | rfl | rfl | rfl | rfl | rfl | rfl | rfl | rfl
  · exact ⟨.str "", by simp [PV], rfl⟩
  · exact ⟨.str "a", by simp [PV], rfl⟩
  · exact ⟨.int 0, by simp [PV], rfl⟩
  · exact ⟨.int (-1), by simp [PV], rfl⟩
  · exact ⟨.bool true, by simp [PV], rfl⟩
  · exact ⟨.none, by simp [PV], rfl⟩
  · exact ⟨.tuple [], by simp [PV], rfl⟩
  · exact ⟨.tuple [.str "a", .int 1], by simp [PV], rfl⟩
  · exact ⟨_, by simp [PV], e1⟩
  · exact ⟨_, by simp [PV], e2⟩
  · exact ⟨.int (10 ^ 40), by simp [PV], rfl⟩
  · exact ⟨.tuple [.tuple [.str "x", .int 2], .none], by simp [PV], rfl⟩
theorem str_len (x y : Str) : (x ++ y).length = x.length + y.length := by
  show (x.cps ++ y.cps).size = _
  rw [Array.size_append]
  rfl
theorem str_okA (x y : Str) : PyData.strOk (x ++ y) = (PyData.strOk x && PyData.strOk y) := by
  show (x.cps ++ y.cps).all _ = _
  rw [Array.all_append]
  rfl
def itemT (q : PyData) : Bool := q.showable && (q.canLay0 && (decide (q.depth ≤ 3) && (decide (q.shown.length ≤ 64) && PyData.strOk q.shown)))
theorem items_ok : PV.all itemT = true := by kernel_rfl
theorem text_from : ∀ (ts : List Str) (k : Nat) (acc : Str), (∀ t ∈ ts, t.length ≤ 64 ∧ PyData.strOk t = true) → PyData.strOk acc = true → (textFrom k acc ts).length ≤ acc.length + 66 * ts.length ∧ PyData.strOk (textFrom k acc ts) = true
  | [], k, acc, _, h => ⟨Nat.le_refl _, h⟩
  | t :: r, k, acc, h, ha => by
    obtain ⟨t1, t2⟩ := h t List.mem_cons_self
    have sep : (Str.ofString (if k > 0 then ", " else "")).length ≤ 2 ∧ PyData.strOk (Str.ofString (if k > 0 then ", " else "")) = true := by
      by_cases hk : k > 0
      · rw [if_pos hk]
        exact ⟨by decide, by kernel_rfl⟩
      · rw [if_neg hk]
        exact ⟨by decide, by kernel_rfl⟩
    have ok2 : PyData.strOk (acc ++ Str.ofString (if k > 0 then ", " else "") ++ t) = true := by rw [str_okA, str_okA, ha, sep.2, t2]; rfl
    obtain ⟨h1, h2⟩ := text_from r (k + 1) (acc ++ Str.ofString (if k > 0 then ", " else "") ++ t) (fun x hx => h x (List.mem_cons_of_mem _ hx)) ok2
    rw [str_len, str_len] at h1
    refine ⟨?_, h2⟩
    show (textFrom (k + 1) (acc ++ Str.ofString (if k > 0 then ", " else "") ++ t) r).length ≤ _
    have := sep.1
    rw [List.length_cons]
    omega
theorem all_items : ∀ {qs : List PyData}, (∀ q ∈ qs, q ∈ PV) → PyData.showableAll qs = true ∧ PyData.canLayAll0 qs = true ∧ PyData.depthAll qs ≤ 3 ∧ (PyData.shownAll qs).length = qs.length ∧ ∀ t ∈ PyData.shownAll qs, t.length ≤ 64 ∧ PyData.strOk t = true
  | [], _ => ⟨rfl, rfl, Nat.zero_le _, rfl, fun t h => by simp [PyData.shownAll] at h⟩
  | q :: qs, h => by
    obtain ⟨i1, i2, i3, i4, i5⟩ := all_items (qs := qs) fun x hx => h x (List.mem_cons_of_mem _ hx)
    obtain ⟨a1, b⟩ := an (List.all_eq_true.mp items_ok q (h q List.mem_cons_self))
    obtain ⟨a2, b⟩ := an b
    obtain ⟨a3, b⟩ := an b
    obtain ⟨a4, a5⟩ := an b
    have a3 := of_decide_eq_true a3
    refine ⟨?_, ?_, ?_, ?_, fun t ht => ?_⟩
    · unfold PyData.showableAll
      rw [a1, i1]
      rfl
    · unfold PyData.canLayAll0
      rw [a2, i2]
      rfl
    · unfold PyData.depthAll
      exact Nat.max_le.mpr ⟨a3, i3⟩
    · unfold PyData.shownAll
      rw [List.length_cons, List.length_cons, i4]
    · unfold PyData.shownAll at ht
      rcases List.mem_cons.mp ht with z | z
      · rw [z]
        exact ⟨of_decide_eq_true a4, a5⟩
      · exact i5 t z
def showT (p : PyData) : Bool := showOk p && SeqAt.shaped (.str p.shown)
theorem show_ok {qs : List PyData} (hl : qs.length ≤ 3) (h : ∀ q ∈ qs, q ∈ PV) : showT (.list qs) = true := by
  obtain ⟨i1, i2, i3, i4, i5⟩ := all_items h
  obtain ⟨t1, t2⟩ := text_from (PyData.shownAll qs) 0 "[" i5 (by kernel_rfl)
  have sh : PyData.shown (.list qs) = textFrom 0 "[" (PyData.shownAll qs) ++ "]" := by
    unfold PyData.shown
    rfl
  have so : PyData.strOk (PyData.shown (.list qs)) = true := by
    rw [sh, str_okA, t2]
    kernel_rfl
  have sl : (PyData.shown (.list qs)).length ≤ sizeLine := by
    rw [sh, str_len]
    have e1 : (Str.ofString "[").length = 1 := by decide
    have e2 : (Str.ofString "]").length = 1 := by decide
    rw [e1, i4] at t1
    refine small_sz ?_
    show _ + (Str.ofString "]").length ≤ 1000
    rw [e2]
    omega
  have shp : SeqAt.shaped (.list qs) = true := by
    unfold SeqAt.shaped PyData.canLay0 PyData.depth
    rw [i2, decide_eq_true (by omega)]
    rfl
  have swb : PyData.showable (.list qs) = true := by
    unfold PyData.showable
    exact i1
  have shs : SeqAt.shaped (.str (PyData.shown (.list qs))) = true := by
    unfold SeqAt.shaped PyData.canLay0 PyData.depth
    rw [so]
    rfl
  unfold showT showOk
  rw [swb, shp, decide_eq_true sl, shs]
  rfl
theorem vals_py {A : AH} : ∀ {ds : List D}, (∀ d ∈ ds, Val A d) → ∃ qs, D.pys (lkH A 7) ds = some qs ∧ qs.length = ds.length ∧ ∀ q ∈ qs, q ∈ PV
  | [], _ => ⟨[], rfl, rfl, fun q h => by simp at h⟩
  | d :: ds, h => by
    obtain ⟨q, hq, e⟩ := val_py (h d List.mem_cons_self)
    obtain ⟨qs, e2, hl, hqs⟩ := vals_py (ds := ds) fun x hx => h x (List.mem_cons_of_mem _ hx)
    refine ⟨q :: qs, ?_, by rw [List.length_cons, List.length_cons, hl], fun x hx => ?_⟩
    · unfold D.pys
      rw [e, e2]
    · rcases List.mem_cons.mp hx with z | z
      · rw [z]; exact hq
      · exact hqs x z
/-- lists of the same drawn values show the same -/
theorem repr_same {A : AH} {a b : Nat} {ds : List D} (ha : A[a]? = some (.lst ds)) (hb : A[b]? = some (.lst ds)) (hl : ds.length ≤ 3) (hd : ∀ d ∈ ds, Val A d) :
    ∃ s : Str, SeqAt.shaped (.str s) = true ∧ reprD [.ref a] A = .ok (.str s) A ∧ reprD [.ref b] A = .ok (.str s) A := by
  obtain ⟨qs, e, hq, hqs⟩ := vals_py hd
  obtain ⟨so, s3⟩ := an (show_ok (qs := qs) (by omega) hqs)
  have py : ∀ {x : Nat}, A[x]? = some (.lst ds) → pyH A (.ref x) = some (.list qs) := fun {x} hx => by
    show lkH A 8 x = _
    unfold lkH
    rw [hx]
    show (D.pys (lkH A 7) ds).map PyData.list = _
    rw [e]
    rfl
  have one : ∀ {x : Nat}, A[x]? = some (.lst ds) → reprD [.ref x] A = .ok (.str (PyData.shown (.list qs))) A := fun {x} hx => by
    unfold reprD
    simp only [py hx, if_pos so]
  exact ⟨_, s3, one ha, one hb⟩
/-! ### a drawn value -/
theorem value_spec {F F' F2 : FEnv} (hP : F ("_law_pick", none) = runB 2 (b__law_pick F')) (hF : F' ("_law_draw", none) = runB 5 (b__law_draw F2)) {A : AH} {p c : Nat} {ns : List Int} {at_ dg ct fd : Int} (h : Pen A p c ns at_ dg ct fd) (hc : ct < 1000000000000) :
    ∃ d A' at' dg' fd', Val A' d ∧ Pen A' p c ns at' dg' (ct + 1) fd' ∧ (∀ x, Val A x → Val A' x) ∧ runB 1 (b__law_value F) [.ref p] A = .ok d A' := by
  have e0 : (eLst (aCons (eC (.str "")) (aCons (eC (.str "a")) (aCons (eC (.int 0)) (aCons (eUn negD (eC (.int 1))) (aCons (eC (.bl true)) (aCons (eC .non) (aCons (eTup aNil) (aCons (eTup (aCons (eC (.str "a")) (aCons (eC (.int 1)) aNil)))
      (aCons (eLst (aCons (eC (.int 1)) (aCons (eC (.str "b")) aNil))) (aCons (eLst aNil) (aCons (eOp powD (eC (.int 10)) (eC (.int 40))) (aCons (eTup (aCons (eTup (aCons (eC (.str "x")) (aCons (eC (.int 2)) aNil))) (aCons (eC .non) aNil))) aNil))))))))))))) [some (.ref p)] A =
      .ok (.ref (A ++ [L12, LE0]).length) (A ++ [L12, LE0] ++ [.lst (valL A.length)]) := by
    have e1 : eLst (aCons (eC (.int 1)) (aCons (eC (.str "b")) aNil)) [some (.ref p)] A = .ok (.ref A.length) (A ++ [L12]) := rfl
    have e2 : eLst aNil [some (.ref p)] (A ++ [L12]) = .ok (.ref (A.length + 1)) (A ++ [L12, LE0]) := by
      rw [eLst_ok aNil_ok (by decide), List.length_append, List.append_assoc]
      rfl
    exact eLst_ok (aCons_ok kC (aCons_ok kC (aCons_ok kC (aCons_ok (d := .int (-1)) rfl (aCons_ok kC (aCons_ok kC (aCons_ok (d := .tup []) rfl (aCons_ok (d := .tup [.str "a", .int 1]) rfl (aCons_ok e1 (aCons_ok e2 (aCons_ok (d := .int (10 ^ 40)) rfl (aCons_ok (d := .tup [.tup [.str "x", .int 2], .non]) rfl aNil_ok)))))))))))) (by show 12 ≤ 1000; omega)
  have h2 : Pen (A ++ [L12, LE0] ++ [.lst (valL A.length)]) p c ns at_ dg ct fd := h.app.app
  obtain ⟨d, at', dg', fd', md, h3, e3⟩ := pick_spec (F := F') hF h2 hc (l := (A ++ [L12, LE0]).length) (xs := valL A.length) app_0 (by show 0 < 12; omega) (by show 12 < _; omega)
  refine ⟨d, _, at', dg', fd', ?_, h3, fun x hx => (hx.app.app).set h2.o, runB_rt ?_⟩
  · refine Val.set ⟨A.length, md, app_l app_0, app_l (app_r (i := 1))⟩ h2.o
  · show b__law_value F [some (.ref p)] A = _
    unfold b__law_value
    refine sRet_ok ?_
    rw [eCall_ok (aCons_ok (d := .ref p) rfl (aCons_ok e0 aNil_ok)), hP]
    exact e3
end Pi

/-! Pm6: k01: the fields that are read, the kinds that are asked. -/
namespace Pi
open PyProof.Rows PySem L2 PySem.Spec

noncomputable def chF (F : FEnv) : SM := (sIf (tCmp eqD (eVar 3) (eC (.str "line")))
    (sExp (eMeth (mtsT F) "append" (eVar 2) (aCons (eFldX attT exaT "line" (eVar 0)) aNil)))
    (sIf (tCmp eqD (eVar 3) (eC (.str "word")))
      (sExp (eMeth (mtsT F) "append" (eVar 2) (aCons (eFldX attT exaT "word" (eVar 0)) aNil)))
      (sIf (tCmp eqD (eVar 3) (eC (.str "name")))
        (sExp (eMeth (mtsT F) "append" (eVar 2) (aCons (eFldX attT exaT "name" (eVar 0)) aNil)))
        (sIf (tCmp eqD (eVar 3) (eC (.str "what")))
          (sExp (eMeth (mtsT F) "append" (eVar 2) (aCons (eFldX attT exaT "what" (eVar 0)) aNil)))
          (sIf (tCmp eqD (eVar 3) (eC (.str "number")))
            (sExp (eMeth (mtsT F) "append" (eVar 2) (aCons (eFldX attT exaT "number" (eVar 0)) aNil)))
            (sIf (tCmp eqD (eVar 3) (eC (.str "row")))
              (sExp (eMeth (mtsT F) "append" (eVar 2) (aCons (eFldX attT exaT "row" (eVar 0)) aNil)))
              (sIf (tCmp eqD (eVar 3) (eC (.str "many")))
                (sExp (eMeth (mtsT F) "append" (eVar 2) (aCons (eFldX attT exaT "many" (eVar 0)) aNil)))
                (sIf (tCmp eqD (eVar 3) (eC (.str "limit")))
                  (sExp (eMeth (mtsT F) "append" (eVar 2) (aCons (eFldX attT exaT "limit" (eVar 0)) aNil)))
                  (sIf (tCmp eqD (eVar 3) (eC (.str "promise")))
                    (sExp (eMeth (mtsT F) "append" (eVar 2) (aCons (eFldX attT exaT "promise" (eVar 0)) aNil)))
                    (sExp (eMeth (mtsT F) "append" (eVar 2) (aCons (eFldX attT exaT "witness" (eVar 0)) aNil))))))))))))
def ten : List Str := ["line", "word", "name", "what", "number", "row", "many", "limit", "promise", "witness"]
noncomputable def chR (F : FEnv) (s : Str) : SM := sExp (eMeth (mtsT F) "append" (eVar 2) (aCons (eFldX attT exaT s (eVar 0)) aNil))
theorem ch_name {F : FEnv} {e n l : D} {s : Str} {A : AH} (h : s ∈ ten) : chF F [some e, some n, some l, some (.str s)] A = chR F s [some e, some n, some l, some (.str s)] A := by
  unfold ten at h
  simp only [List.mem_cons, List.not_mem_nil, or_false] at h
  rcases h with rfl | rfl | rfl | rfl | rfl | rfl | rfl | rfl | rfl | rfl
  · kernel_rfl
  · kernel_rfl
  · kernel_rfl
  · kernel_rfl
  · kernel_rfl
  · kernel_rfl
  · kernel_rfl
  · kernel_rfl
  · kernel_rfl
  · kernel_rfl
theorem app_step {T : Mts} {e : EM} {ρ : Fr} {A : AH} {i l : Nat} {xs : List D} {y : D} (hl : A[l]? = some (.lst xs)) (ho : eVar i ρ A = .ok (.ref l) A) (he : e ρ A = .ok y A) (hz : xs.length < 1000) :
    sExp (eMeth T "append" (eVar i) (aCons e aNil)) ρ A = .nx ρ (A.set l (.lst (xs ++ [y]))) := by
  have hk : kdM T A "append" (.ref l) = some .lst := by
    unfold kdM kdOf
    simp only [hl]
    rfl
  have hz2 : xs.length < sizeLine := by
    rw [sizeLine_eq]
    omega
  have ha : methD T .lst "append" (.ref l) [y] A = .ok .non (A.set l (.lst (xs ++ [y]))) := by
    show appendD (.ref l) [y] A = _
    unfold appendD onLst onRef
    simp only [hl, if_pos hz2]
    rfl
  unfold sExp inE eMeth bnd
  simp only [ho, hk, aCons_ok he aNil_ok, ha]
  rfl
theorem set_last {A : AH} {o u : AO} : (A ++ [o]).set A.length u = A ++ [u] := by
  rw [List.set_append_right _ _ (Nat.le_refl _), Nat.sub_self]
  rfl
theorem fields_spec {F : FEnv} {A : AH} {e : D} {n : Nat} {names : List Str} {vs : List D} (hn : A[n]? = some (.lst (names.map D.str))) (hl : vs.length = names.length) (hz : names.length < 100)
    (hk : ∀ (i : Nat) (s : Str), names[i]? = some s → s ∈ ten ∧ ∃ v : D, vs[i]? = some v ∧ ∀ A' : AH, fldX attT exaT s e A' = .ok v A') : runB 4 (b__law_fields F) [e, .ref n] A = .ok (.ref A.length) (A ++ [.lst vs]) := by
  apply runB_rt
  show b__law_fields F [some e, some (.ref n), none, none] A = _
  unfold b__law_fields
  rw [sSeq_nx (sAsg_ok (ρ' := [some e, some (.ref n), some (.ref A.length), none]) (eLst_ok aNil_ok (by decide)) rfl)]
  have lp : ∃ ρ' A', sFor (mSrc (eVar 1)) (gNam 3) (chF F) [some e, some (.ref n), some (.ref A.length), none] (A ++ [.lst []]) = .nx ρ' A' ∧ (A' = A ++ [.lst (vs.take (names.map D.str).length)] ∧ ∃ o, ρ' = [some e, some (.ref n), some (.ref A.length), o]) := by
    have hs : mSrc (eVar 1) [some e, some (.ref n), some (.ref A.length), none] (A ++ [.lst []]) = .ok (srcR n) (A ++ [.lst []]) := by
      show srcOf (.ref n) (A ++ [.lst []]) = _
      unfold srcOf onRef
      simp only [app_l hn]
      rfl
    rw [sFor_ok hs]
    refine for_inv (xs := names.map D.str) (fun i ρ A' => A' = A ++ [.lst (vs.take i)] ∧ ∃ o, ρ = [some e, some (.ref n), some (.ref A.length), o]) (fun i ρ A' h => ?_) ?_ ⟨rfl, none, rfl⟩
    · show (match A'[n]? with
        | some (.lst xs) => some xs[i]?
        | _ => none) = _
      rw [h.1, app_l hn]
    · rintro i d ρ A' hd ⟨rfl, o, rfl⟩
      rw [List.getElem?_map] at hd
      obtain ⟨s, hs, rfl⟩ := Option.map_eq_some_iff.mp hd
      obtain ⟨ht, v, hv, hf⟩ := hk i s hs
      have hi : i < vs.length := (List.getElem?_eq_some_iff.mp hv).1
      refine ⟨_, _, _, _, rfl, .inl ((ch_name ht).trans (app_step (y := v) app_0 rfl (hf _) ?_)), ?_, some (.str s), rfl⟩
      · rw [List.length_take]
        omega
      · rw [set_last, List.take_succ, hv]
        rfl
  obtain ⟨ρ', A', e1, rfl, o, rfl⟩ := lp
  refine (sSeq_nx e1).trans (sRet_ok ?_)
  rw [List.length_map, ← hl, List.take_length]
  rfl
/-! ### kinds -/
theorem add_lst {A : AH} {a b : Nat} {xs ys : List D} (ha : A[a]? = some (.lst xs)) (hb : A[b]? = some (.lst ys)) (hl : xs.length + ys.length ≤ 1000) : addD (.ref a) (.ref b) A = .ok (.ref A.length) (A ++ [.lst (xs ++ ys)]) := by
  unfold addD
  simp only [ha, hb, if_pos (small_sz hl)]
  rfl
theorem sub_all : (excN.all fun c => excC.all fun x => decide (subT (.exc c) x = some (isKind c x))) = true := by kernel_rfl
theorem isi_kind {c x : Str} {fs : List Str} {ds : List D} {ρ : Fr} {A : AH} (hc : c ∈ excN) (hx : x ∈ excC) (h0 : eVar 0 ρ A = .ok (.exv c fs ds) A) : eIsi subT [x] (eVar 0) ρ A = .ok (.bl (isKind c x)) A := by
  have s := of_decide_eq_true (List.all_eq_true.mp (List.all_eq_true.mp sub_all c hc) x hx)
  have hi : isiN subT (.exc c) [x] = some (isKind c x) := by
    unfold isiN
    rw [s]
    cases isKind c x <;> rfl
  unfold eIsi bnd isiD tyD
  simp only [h0, hi]
def twelve : List Str := ["BadText", "BadName", "BadNumber", "BadRow", "NoName", "TakenName", "Unlike", "NotThere", "TooMany", "NotKept", "NothingToUndo", "NothingToRedo"]
theorem kinds_spec {F : FEnv} {A : AH} {c : Str} {fs : List Str} {ds : List D} (hc : c ∈ excN) : ∃ B, B[6]? = some (.lst (twelve.map fun x => .bl (isKind c x))) ∧ runB 2 (b__law_kinds F) [.exv c fs ds] A = .ok (.ref (A.length + 6)) (A ++ B) := by
  have k : ∀ {x : Str} {o : Option D} {A : AH}, x ∈ excC → eIsi subT [x] (eVar 0) [some (.exv c fs ds), o] A = .ok (.bl (isKind c x)) A := fun hx => isi_kind hc hx rfl
  have mem : ∀ {x : Str}, (excC.any fun y => decide (y = x)) = true → x ∈ excC := fun {x} h => by
    obtain ⟨y, hy, e⟩ := List.any_eq_true.mp h
    exact of_decide_eq_true e ▸ hy
  have m : ∀ x ∈ twelve, x ∈ excC := by
    intro x hx
    unfold twelve at hx
    simp only [List.mem_cons, List.not_mem_nil, or_false] at hx
    rcases hx with rfl | rfl | rfl | rfl | rfl | rfl | rfl | rfl | rfl | rfl | rfl | rfl <;> exact mem (by kernel_rfl)
  have b : ∀ x, D := fun x => .bl (isKind c x)
  refine ⟨[.lst [.bl (isKind c "BadText"), .bl (isKind c "BadName"), .bl (isKind c "BadNumber"), .bl (isKind c "BadRow")], .lst [.bl (isKind c "NoName"), .bl (isKind c "TakenName"), .bl (isKind c "Unlike"), .bl (isKind c "NotThere")],
    .lst [.bl (isKind c "BadText"), .bl (isKind c "BadName"), .bl (isKind c "BadNumber"), .bl (isKind c "BadRow"), .bl (isKind c "NoName"), .bl (isKind c "TakenName"), .bl (isKind c "Unlike"), .bl (isKind c "NotThere")],
    .lst [.bl (isKind c "TooMany"), .bl (isKind c "NotKept"), .bl (isKind c "NothingToUndo")],
    .lst [.bl (isKind c "BadText"), .bl (isKind c "BadName"), .bl (isKind c "BadNumber"), .bl (isKind c "BadRow"), .bl (isKind c "NoName"), .bl (isKind c "TakenName"), .bl (isKind c "Unlike"), .bl (isKind c "NotThere"), .bl (isKind c "TooMany"), .bl (isKind c "NotKept"), .bl (isKind c "NothingToUndo")],
    .lst [.bl (isKind c "NothingToRedo")], .lst (twelve.map fun x => .bl (isKind c x))], rfl, runB_rt ?_⟩
  show b__law_kinds F [some (.exv c fs ds), none] A = _
  unfold b__law_kinds
  have ap : ∀ {A : AH} {B : AH} {o : AO}, A ++ B ++ [o] = A ++ (B ++ [o]) := fun {A B o} => List.append_assoc _ _ _
  have ln : ∀ {A B : AH}, (A ++ B).length = A.length + B.length := fun {A B} => List.length_append
  rw [sSeq_nx (sAsg_ok (ρ' := [some (.exv c fs ds), some (.ref A.length)]) (eLst_ok (aCons_ok (k (m _ (by simp [twelve]))) (aCons_ok (k (m _ (by simp [twelve]))) (aCons_ok (k (m _ (by simp [twelve]))) (aCons_ok (k (m _ (by simp [twelve]))) aNil_ok)))) (by show 4 ≤ 1000; omega)) rfl)]
  rw [sSeq_nx (sAsg_ok (ρ' := [some (.exv c fs ds), some (.ref (A.length + 2))]) (eOp_ok (x := .ref A.length) rfl (eLst_ok (aCons_ok (k (m _ (by simp [twelve]))) (aCons_ok (k (m _ (by simp [twelve]))) (aCons_ok (k (m _ (by simp [twelve]))) (aCons_ok (k (m _ (by simp [twelve]))) aNil_ok)))) (by show 4 ≤ 1000; omega))
    (by simp only [List.append_assoc, List.cons_append, List.nil_append, List.length_append, List.length_cons, List.length_nil, Nat.reduceAdd]; exact add_lst app_0 (app_r (i := 1)) (by show 8 ≤ 1000; omega))) (by simp only [List.append_assoc, List.cons_append, List.nil_append, List.length_append, List.length_cons, List.length_nil, Nat.reduceAdd]; rfl))]
  rw [sSeq_nx (sAsg_ok (ρ' := [some (.exv c fs ds), some (.ref (A.length + 4))]) (eOp_ok (x := .ref (A.length + 2)) rfl (eLst_ok (aCons_ok (k (m _ (by simp [twelve]))) (aCons_ok (k (m _ (by simp [twelve]))) (aCons_ok (k (m _ (by simp [twelve]))) aNil_ok))) (by show 3 ≤ 1000; omega))
    (by simp only [List.append_assoc, List.cons_append, List.nil_append, List.length_append, List.length_cons, List.length_nil, Nat.reduceAdd]; exact add_lst (app_r (i := 2)) (app_r (i := 3)) (by show 11 ≤ 1000; omega))) (by simp only [List.append_assoc, List.cons_append, List.nil_append, List.length_append, List.length_cons, List.length_nil, Nat.reduceAdd]; rfl))]
  refine sRet_ok (eOp_ok (x := .ref (A.length + 4)) rfl (eLst_ok (aCons_ok (k (m _ (by simp [twelve]))) aNil_ok) (by show 1 ≤ 1000; omega)) ?_)
  simp only [List.append_assoc, List.cons_append, List.nil_append, List.length_append, List.length_cons, List.length_nil, Nat.reduceAdd]
  refine (add_lst (app_r (i := 4)) (app_r (i := 5)) (by show 12 ≤ 1000; omega)).trans ?_
  simp only [List.append_assoc, List.cons_append, List.nil_append, List.length_append, List.length_cons, List.length_nil, Nat.reduceAdd]
  rfl
end Pi

/-! Pm7: k01: the errors that are made. -/
namespace Pi
open PyProof.Rows PySem L2 PySem.Spec

theorem eExc_ok {c : Str} {np : Nat} {fs : List (Str × Nat)} {t : AM} {ρ : Fr} {A A1 : AH} {ds : List D} (h : t ρ A = .ok ds A1) (hl : ds.length = np) : eExc c np fs t ρ A = .ok (exvOf c (rvD ds fs [])) A1 := by
  unfold eExc bnd
  simp only [h, if_pos hl]
  rfl
def nmL (xs : List Str) : AO := .lst (xs.map D.str)
/-- the rows, the first names' list at k -/
def rows1 (a b : D) (k : Nat) : List D := [.tup [.exv "BadText" ["word", "line"] [b, a], .ref k], .tup [.exv "BadName" ["name"] [a], .ref (k + 1)], .tup [.exv "BadNumber" ["number", "what"] [b, a], .ref (k + 2)]]
def rows2 (a b : D) (k : Nat) : List D := [.tup [.exv "BadRow" ["row", "what"] [b, a], .ref (k + 4)], .tup [.exv "NoName" ["name"] [a], .ref (k + 5)], .tup [.exv "TakenName" ["name"] [a], .ref (k + 6)]]
def rows3 (a b c : D) (k : Nat) : List D := [.tup [.exv "Unlike" ["what"] [a], .ref (k + 9)], .tup [.exv "NotThere" ["what"] [a], .ref (k + 10)], .tup [.exv "TooMany" ["limit", "many", "what"] [c, b, a], .ref (k + 11)]]
def rows4 (a b : D) (k : Nat) : List D := [.tup [.exv "NotKept" ["witness", "promise"] [b, a], .ref (k + 14)]]
def madeB (a b c : D) (k : Nat) : AH := [nmL ["line", "word"], nmL ["name"], nmL ["what", "number"], .lst (rows1 a b k), nmL ["what", "row"], nmL ["name"], nmL ["name"], .lst (rows2 a b k), .lst (rows1 a b k ++ rows2 a b k),
  nmL ["what"], nmL ["what"], nmL ["what", "many", "limit"], .lst (rows3 a b c k), .lst (rows1 a b k ++ rows2 a b k ++ rows3 a b c k), nmL ["promise", "witness"], .lst (rows4 a b k), .lst (rows1 a b k ++ rows2 a b k ++ rows3 a b c k ++ rows4 a b k)]
theorem lst1 {x : Str} {ρ : Fr} {A : AH} : eLst (aCons (eC (.str x)) aNil) ρ A = .ok (.ref A.length) (A ++ [nmL [x]]) := rfl
theorem lst2 {x y : Str} {ρ : Fr} {A : AH} : eLst (aCons (eC (.str x)) (aCons (eC (.str y)) aNil)) ρ A = .ok (.ref A.length) (A ++ [nmL [x, y]]) := rfl
theorem lst3 {x y z : Str} {ρ : Fr} {A : AH} : eLst (aCons (eC (.str x)) (aCons (eC (.str y)) (aCons (eC (.str z)) aNil))) ρ A = .ok (.ref A.length) (A ++ [nmL [x, y, z]]) := rfl
theorem pair_ok {e1 e2 : EM} {ρ : Fr} {A A1 A2 : AH} {x y : D} (h : e1 ρ A = .ok x A1) (h2 : e2 ρ A1 = .ok y A2) : eTup (aCons e1 (aCons e2 aNil)) ρ A = .ok (.tup [x, y]) A2 := eTup_ok (aCons_ok h (aCons_ok h2 aNil_ok)) (by show 2 ≤ 1000; omega)
theorem made_spec {F : FEnv} {A : AH} {a b c : D} : runB 4 (b__law_made_errors F) [a, b, c] A = .ok (.ref (A.length + 16)) (A ++ madeB a b c A.length) := by
  apply runB_rt
  show b__law_made_errors F [some a, some b, some c, none] A = _
  unfold b__law_made_errors
  have w0 : ∀ {o : Option D} {A : AH}, eVar 0 [some a, some b, some c, o] A = .ok a A := fun {o A} => rfl
  have w1 : ∀ {o : Option D} {A : AH}, eVar 1 [some a, some b, some c, o] A = .ok b A := fun {o A} => rfl
  have w2 : ∀ {o : Option D} {A : AH}, eVar 2 [some a, some b, some c, o] A = .ok c A := fun {o A} => rfl
  have x1 : ∀ {n f : Str} {o : Option D} {A : AH}, eExc n 1 [(f, 1)] (aCons (eVar 0) aNil) [some a, some b, some c, o] A = .ok (.exv n [f] [a]) A := fun {n f o A} => eExc_ok (aCons_ok w0 aNil_ok) rfl
  have x2 : ∀ {n f g : Str} {o : Option D} {A : AH}, eExc n 2 [(f, 1), (g, 2)] (aCons (eVar 0) (aCons (eVar 1) aNil)) [some a, some b, some c, o] A = .ok (.exv n [g, f] [b, a]) A := fun {n f g o A} => eExc_ok (aCons_ok w0 (aCons_ok w1 aNil_ok)) rfl
  have x3 : ∀ {n f g h : Str} {o : Option D} {A : AH}, eExc n 3 [(f, 1), (g, 2), (h, 3)] (aCons (eVar 0) (aCons (eVar 1) (aCons (eVar 2) aNil))) [some a, some b, some c, o] A = .ok (.exv n [h, g, f] [c, b, a]) A := fun {n f g h o A} => eExc_ok (aCons_ok w0 (aCons_ok w1 (aCons_ok w2 aNil_ok))) rfl
  have e1 := eLst_ok (aCons_ok (pair_ok (ρ := [some a, some b, some c, none]) (A := A) (x2 (n := "BadText") (f := "line") (g := "word")) (lst2 (x := "line") (y := "word"))) (aCons_ok (pair_ok (x1 (n := "BadName") (f := "name")) (lst1 (x := "name"))) (aCons_ok (pair_ok (x2 (n := "BadNumber") (f := "what") (g := "number")) (lst2 (x := "what") (y := "number"))) aNil_ok))) (by show 3 ≤ 1000; omega)
  simp only [List.append_assoc, List.cons_append, List.nil_append, List.length_append, List.length_cons, List.length_nil, Nat.reduceAdd] at e1
  rw [sSeq_nx (sAsg_ok (ρ' := [some a, some b, some c, some (.ref (A.length + 3))]) e1 rfl)]
  have e2 := eLst_ok (aCons_ok (pair_ok (ρ := [some a, some b, some c, some (.ref (A.length + 3))]) (A := A ++ [nmL ["line", "word"], nmL ["name"], nmL ["what", "number"], .lst (rows1 a b A.length)]) (x2 (n := "BadRow") (f := "what") (g := "row")) (lst2 (x := "what") (y := "row"))) (aCons_ok (pair_ok (x1 (n := "NoName") (f := "name")) (lst1 (x := "name"))) (aCons_ok (pair_ok (x1 (n := "TakenName") (f := "name")) (lst1 (x := "name"))) aNil_ok))) (by show 3 ≤ 1000; omega)
  simp only [List.append_assoc, List.cons_append, List.nil_append, List.length_append, List.length_cons, List.length_nil, Nat.reduceAdd] at e2
  have f2 := eOp_ok (g := addD) (a := eVar 3) (x := .ref (A.length + 3)) (A := A ++ [nmL ["line", "word"], nmL ["name"], nmL ["what", "number"], .lst (rows1 a b A.length)]) (A1 := A ++ [nmL ["line", "word"], nmL ["name"], nmL ["what", "number"], .lst (rows1 a b A.length)]) rfl e2 (add_lst (app_r (i := 3)) (app_r (i := 7)) (by show 6 ≤ 1000; omega))
  simp only [List.append_assoc, List.cons_append, List.nil_append, List.length_append, List.length_cons, List.length_nil, Nat.reduceAdd] at f2
  refine (sSeq_nx (sAsg_ok (ρ' := [some a, some b, some c, some (.ref (A.length + 8))]) f2 rfl)).trans ?_
  have e3 := eLst_ok (aCons_ok (pair_ok (ρ := [some a, some b, some c, some (.ref (A.length + 8))]) (A := A ++ (madeB a b c A.length).take 9) (x1 (n := "Unlike") (f := "what")) (lst1 (x := "what"))) (aCons_ok (pair_ok (x1 (n := "NotThere") (f := "what")) (lst1 (x := "what"))) (aCons_ok (pair_ok (x3 (n := "TooMany") (f := "what") (g := "many") (h := "limit")) (lst3 (x := "what") (y := "many") (z := "limit"))) aNil_ok))) (by show 3 ≤ 1000; omega)
  have t9 : ((madeB a b c A.length).take 9).length = 9 := rfl
  simp only [List.append_assoc, List.cons_append, List.nil_append, List.length_append, List.length_cons, List.length_nil, Nat.reduceAdd, t9, Nat.add_assoc] at e3
  have f3 := eOp_ok (g := addD) (a := eVar 3) (x := .ref (A.length + 8)) (A := A ++ (madeB a b c A.length).take 9) (A1 := A ++ (madeB a b c A.length).take 9) rfl e3 (add_lst (app_r (i := 8)) (app_r (i := 12)) (by show 9 ≤ 1000; omega))
  simp only [List.append_assoc, List.cons_append, List.nil_append, List.length_append, List.length_cons, List.length_nil, Nat.reduceAdd, t9, Nat.add_assoc] at f3
  refine (sSeq_nx (sAsg_ok (ρ' := [some a, some b, some c, some (.ref (A.length + 13))]) f3 rfl)).trans ?_
  have e4 := eLst_ok (aCons_ok (pair_ok (ρ := [some a, some b, some c, some (.ref (A.length + 13))]) (A := A ++ (madeB a b c A.length).take 14) (x2 (n := "NotKept") (f := "promise") (g := "witness")) (lst2 (x := "promise") (y := "witness"))) aNil_ok) (by show 1 ≤ 1000; omega)
  have t14 : ((madeB a b c A.length).take 14).length = 14 := rfl
  simp only [List.append_assoc, List.cons_append, List.nil_append, List.length_append, List.length_cons, List.length_nil, Nat.reduceAdd, t14, Nat.add_assoc] at e4
  have f4 := eOp_ok (g := addD) (a := eVar 3) (x := .ref (A.length + 13)) (A := A ++ (madeB a b c A.length).take 14) (A1 := A ++ (madeB a b c A.length).take 14) rfl e4 (add_lst (app_r (i := 13)) (app_r (i := 15)) (by show 10 ≤ 1000; omega))
  simp only [List.append_assoc, List.cons_append, List.nil_append, List.length_append, List.length_cons, List.length_nil, Nat.reduceAdd, t14, Nat.add_assoc] at f4
  exact sRet_ok f4
end Pi

/-! Pm8: k01: one turn of the law's loop. -/
namespace Pi
open PyProof.Rows PySem L2 PySem.Spec

theorem pys_bls {lk : Nat → Option PyData} : ∀ (bs : List Bool), D.pys lk (bs.map D.bl) = some (bs.map PyData.bool)
  | [] => rfl
  | b :: bs => by
    unfold D.pys
    rw [List.map_cons, List.map_cons]
    show (match some (PyData.bool b) with
      | some d => (match D.pys lk (bs.map D.bl) with
        | some t => some (d :: t)
        | none => none)
      | none => none) = _
    rw [pys_bls bs]
theorem py_bls {A : AH} {a : Nat} {bs : List Bool} (ha : A[a]? = some (.lst (bs.map D.bl))) : pyH A (.ref a) = some (.list (bs.map PyData.bool)) := by
  show lkH A 8 a = _
  unfold lkH
  rw [ha]
  show (D.pys (lkH A 7) (bs.map D.bl)).map PyData.list = _
  rw [pys_bls]
  rfl
theorem ne_bls {A : AH} {a b : Nat} {bs : List Bool} (ha : A[a]? = some (.lst (bs.map D.bl))) (hb : A[b]? = some (.lst (bs.map D.bl))) (h : (SeqAt.shaped (.list (bs.map PyData.bool)) && PyData.eqv (.list (bs.map PyData.bool)) (.list (bs.map PyData.bool))) = true) : neD (.ref a) (.ref b) A = .ok (.bl false) A := by
  obtain ⟨h1, h2⟩ := an h
  unfold neD eqB
  simp only [py_bls ha, py_bls hb, h1, and_self, if_true, h2]
  rfl
theorem ne_str {A : AH} {s : Str} (h : SeqAt.shaped (.str s) = true) : neD (.str s) (.str s) A = .ok (.bl false) A := by
  unfold neD eqB
  simp only [show pyH A (.str s) = some (.str s) from rfl, h, and_self, if_true]
  show R.ok (D.bl (!(s == s))) A = _
  rw [beq_self_eq_true]
  rfl
theorem skip_if {c : TM} {a b : SM} {ρ : Fr} {A A' : AH} (h : c ρ A = .ok false A') : sSeq (sIf c a sNx) b ρ A = b ρ A' := sSeq_nx ((sIf_f h).trans rfl)
/-- what is asked of a row -/
def kthB (k : Nat) : List Bool := (List.range 12).map fun i : Nat => decide ((i : Int) = k)
structure Row (A : AH) (vs : List D) (k : Nat) (one : D) (n : Nat) : Prop where
  ex : ∃ (c : Str) (fs : List Str) (ds : List D) (names : List Str), one = .exv c fs ds ∧ c ∈ excN ∧ A[n]? = some (nmL names) ∧ names.length ≤ 3 ∧ names.length ≤ vs.length ∧ isKind c "TalkError" = true ∧ isKind c "ValueError" = true ∧
    (∀ (i : Nat) (s : Str), names[i]? = some s → s ∈ ten ∧ ∃ v : D, (vs.take names.length)[i]? = some v ∧ ∀ A' : AH, fldX attT exaT s one A' = .ok v A') ∧ twelve.map (isKind c) = kthB k
  sh : (SeqAt.shaped (.list ((kthB k).map PyData.bool)) && PyData.eqv (.list ((kthB k).map PyData.bool)) (.list ((kthB k).map PyData.bool))) = true
  lt : k < 12
theorem Row.app {A B : AH} {vs : List D} {k : Nat} {one : D} {n : Nat} (h : Row A vs k one n) : Row (A ++ B) vs k one n := by
  obtain ⟨⟨c, fs, ds, names, e1, e2, e3, r⟩, sh, lt⟩ := h
  exact ⟨⟨c, fs, ds, names, e1, e2, app_l e3, r⟩, sh, lt⟩
/-- the loop's body -/
noncomputable def turnB (F : FEnv) : SM :=
  (sSeq (sAsg (eVar 4) (gTup [(gNam 5), (gNam 6)]))
    (sSeq (sIf (tOr (tNot (tOf (eIsi subT ["TalkError"] (eVar 5)))) (tNot (tOf (eIsi subT ["ValueError"] (eVar 5)))))
    (sRet (eC (.bl false)))
    sNx)
    (sSeq (sAsg (eSlc (eVar 2) bdN (bdE (eCall lenD (aCons (eVar 6) aNil)))) (gNam 7))
    (sSeq (sIf (tCmp neD (eCall reprD (aCons (eCall (F ("_law_fields", none)) (aCons (eVar 5) (aCons (eVar 6) aNil))) aNil)) (eCall reprD (aCons (eVar 7) aNil)))
    (sRet (eC (.bl false)))
    sNx)
    (sIf (tCmp neD (eCall (F ("_law_kinds", none)) (aCons (eVar 5) aNil)) (eLc (mRng1 (eC (.int 12))) (.one 12) tYesM (eOp eqD (eVar 12) (eVar 3)) [12]))
    (sRet (eC (.bl false)))
    sNx)))))
def frL (s p v : D) (o3 o4 o5 o6 o7 : Option D) : Fr := [some s, some p, some v, o3, o4, o5, o6, o7, none, none, none, none, none]
theorem slc_lst {A : AH} {v : Nat} {vs : List D} {m n : Nat} (hv : A[v]? = some (.lst vs)) (h : n ≤ vs.length) : slD (.ref v) none (some (n : Int)) A = .ok (.ref A.length) (A ++ [.lst (vs.take n)]) := by
  show onRef v _ A = _
  unfold onRef
  rw [hv]
  show new (.lst (cutD vs none (some (n : Int)))) A = _
  unfold cutD
  rw [show HT.sIx vs.length 0 none = 0 from rfl, HT.sIx_nat, Nat.min_eq_left h, Nat.sub_zero, List.drop_zero]
  rfl
theorem turn_spec {F F1 F2 : FEnv} (hF1 : F ("_law_fields", none) = runB 4 (b__law_fields F1)) (hF2 : F ("_law_kinds", none) = runB 2 (b__law_kinds F2)) {A : AH} {s p : D} {v : Nat} {vs : List D} {k : Nat} {one : D} {n : Nat} {o5 o6 o7 : Option D}
    (hv : A[v]? = some (.lst vs)) (hvl : vs.length ≤ 3) (hd : ∀ d ∈ vs, Val A d) (h : Row A vs k one n) :
    ∃ B o7', turnB F (frL s p (.ref v) (some (.int k)) (some (.tup [one, .ref n])) o5 o6 o7) A = .nx (frL s p (.ref v) (some (.int k)) (some (.tup [one, .ref n])) (some one) (some (.ref n)) o7') (A ++ B) := by
  obtain ⟨⟨c, fs, ds, names, rfl, hc, hn, hz, hz2, k1, k2, hf, hk⟩, sh, lt⟩ := h
  have kt : ∀ {x : Str} {o7 : Option D}, x ∈ excC → isKind c x = true → tNot (tOf (eIsi subT [x] (eVar 5))) (frL s p (.ref v) (some (.int k)) (some (.tup [.exv c fs ds, .ref n])) (some (.exv c fs ds)) (some (.ref n)) o7) A = .ok false A := by
    intro x o7 hx hk
    have e : eIsi subT [x] (eVar 5) (frL s p (.ref v) (some (.int k)) (some (.tup [.exv c fs ds, .ref n])) (some (.exv c fs ds)) (some (.ref n)) o7) A = .ok (.bl true) A := by
      rw [← hk]
      have s := of_decide_eq_true (List.all_eq_true.mp (List.all_eq_true.mp sub_all c hc) x hx)
      have hi : isiN subT (.exc c) [x] = some (isKind c x) := by
        unfold isiN
        rw [s]
        cases isKind c x <;> rfl
      unfold eIsi bnd isiD tyD
      simp only [show eVar 5 (frL _ p (.ref v) (some (.int k)) (some (.tup [.exv c fs ds, .ref n])) (some (.exv c fs ds)) (some (.ref n)) o7) A = .ok (.exv c fs ds) A from rfl, hi]
    unfold tNot tOf tTrue bnd
    simp only [e]
    rfl
  unfold turnB
  rw [sSeq_nx (sAsg_ok (ρ' := frL s p (.ref v) (some (.int k)) (some (.tup [.exv c fs ds, .ref n])) (some (.exv c fs ds)) (some (.ref n)) o7) (d := .tup [.exv c fs ds, .ref n]) (A' := A) (A2 := A) rfl rfl)]
  have hor : tOr (tNot (tOf (eIsi subT ["TalkError"] (eVar 5)))) (tNot (tOf (eIsi subT ["ValueError"] (eVar 5)))) (frL s p (.ref v) (some (.int k)) (some (.tup [.exv c fs ds, .ref n])) (some (.exv c fs ds)) (some (.ref n)) o7) A = .ok false A := by
    unfold tOr
    unfold bnd
    simp only [kt (x := "TalkError") (by decide) k1]
    exact kt (x := "ValueError") (by decide) k2
  rw [skip_if hor]
  -- due
  have hlen : bdE (eCall lenD (aCons (eVar 6) aNil)) (frL s p (.ref v) (some (.int k)) (some (.tup [.exv c fs ds, .ref n])) (some (.exv c fs ds)) (some (.ref n)) o7) A = .ok (some (names.length : Int)) A := by
    unfold bdE bnd
    rw [eCall1 (A1 := A) (x := .ref n) rfl ((len_lst hn).trans (by rw [List.length_map]))]
    rfl
  have hs : eSlc (eVar 2) bdN (bdE (eCall lenD (aCons (eVar 6) aNil))) (frL s p (.ref v) (some (.int k)) (some (.tup [.exv c fs ds, .ref n])) (some (.exv c fs ds)) (some (.ref n)) o7) A = .ok (.ref A.length) (A ++ [.lst (vs.take names.length)]) := by
    unfold eSlc
    unfold bnd
    simp only [show eVar 2 (frL s p (.ref v) (some (.int k)) (some (.tup [.exv c fs ds, .ref n])) (some (.exv c fs ds)) (some (.ref n)) o7) A = .ok (.ref v) A from rfl, bdN, ret, hlen]
    exact slc_lst (m := 0) hv hz2
  rw [sSeq_nx (sAsg_ok (ρ' := frL s p (.ref v) (some (.int k)) (some (.tup [.exv c fs ds, .ref n])) (some (.exv c fs ds)) (some (.ref n)) (some (.ref A.length))) hs rfl)]
  -- the fields
  have hfl : eCall (F ("_law_fields", none)) (aCons (eVar 5) (aCons (eVar 6) aNil)) (frL s p (.ref v) (some (.int k)) (some (.tup [.exv c fs ds, .ref n])) (some (.exv c fs ds)) (some (.ref n)) (some (.ref A.length))) (A ++ [.lst (vs.take names.length)]) =
      .ok (.ref (A.length + 1)) (A ++ [.lst (vs.take names.length), .lst (vs.take names.length)]) := by
    rw [eCall_ok (aCons_ok (d := .exv c fs ds) (A1 := A ++ [.lst (vs.take names.length)]) rfl (aCons_ok (d := .ref n) (A1 := A ++ [.lst (vs.take names.length)]) rfl aNil_ok)), hF1, fields_spec (app_l hn) (by rw [List.length_take]; omega) (by omega) hf]
    rw [List.length_append, List.append_assoc]
    rfl
  have dv : ∀ d ∈ vs.take names.length, Val (A ++ [.lst (vs.take names.length), .lst (vs.take names.length)]) d := fun d hd' => (hd d (List.mem_of_mem_take hd')).app
  obtain ⟨z, z1, z2, z3⟩ := repr_same (A := A ++ [AO.lst (vs.take names.length), AO.lst (vs.take names.length)]) (a := A.length + 1) (b := A.length) (ds := vs.take names.length) (app_r (i := 1)) app_0 (by rw [List.length_take]; omega) dv
  have hne : tCmp neD (eCall reprD (aCons (eCall (F ("_law_fields", none)) (aCons (eVar 5) (aCons (eVar 6) aNil))) aNil)) (eCall reprD (aCons (eVar 7) aNil)) (frL s p (.ref v) (some (.int k)) (some (.tup [.exv c fs ds, .ref n])) (some (.exv c fs ds)) (some (.ref n)) (some (.ref A.length))) (A ++ [.lst (vs.take names.length)]) =
      .ok false (A ++ [.lst (vs.take names.length), .lst (vs.take names.length)]) :=
    tCmp_ok (eCall1 hfl z2) (eCall1 (x := .ref A.length) (A1 := A ++ [.lst (vs.take names.length), .lst (vs.take names.length)]) rfl z3) (ne_str z1)
  rw [skip_if hne]
  -- the kinds
  obtain ⟨B, hB, eB⟩ := kinds_spec (F := F2) (A := A ++ [AO.lst (vs.take names.length), AO.lst (vs.take names.length)]) (fs := fs) (ds := ds) hc
  have hkd : eCall (F ("_law_kinds", none)) (aCons (eVar 5) aNil) (frL s p (.ref v) (some (.int k)) (some (.tup [.exv c fs ds, .ref n])) (some (.exv c fs ds)) (some (.ref n)) (some (.ref A.length))) (A ++ [.lst (vs.take names.length), .lst (vs.take names.length)]) =
      .ok (.ref ((A ++ [AO.lst (vs.take names.length), AO.lst (vs.take names.length)]).length + 6)) (A ++ [AO.lst (vs.take names.length), AO.lst (vs.take names.length)] ++ B) := by
    rw [eCall_ok (aCons_ok (d := .exv c fs ds) (A1 := A ++ [.lst (vs.take names.length), .lst (vs.take names.length)]) rfl aNil_ok), hF2]
    exact eB
  have hcp : ∀ A' : AH, eLc (mRng1 (eC (.int 12))) (.one 12) tYesM (eOp eqD (eVar 12) (eVar 3)) [12] (frL s p (.ref v) (some (.int k)) (some (.tup [.exv c fs ds, .ref n])) (some (.exv c fs ds)) (some (.ref n)) (some (.ref A.length))) A' = .ok (.ref A'.length) (A' ++ [.lst ((kthB k).map D.bl)]) := by
    intro A'
    unfold eLc bnd
    simp only [show mRng1 (eC (.int 12)) (frL s p (.ref v) (some (.int k)) (some (.tup [.exv c fs ds, .ref n])) (some (.exv c fs ds)) (some (.ref n)) (some (.ref A.length))) A' = .ok (srcG 0 12) A' from rfl]
    rw [comp_pure (xs := (List.range 12).map fun i : Nat => D.int i) (p := fun _ => true) (f := fun d => match d with
      | .int j => .bl (j == k)
      | _ => .non) (fun i => ?_) (by rw [List.length_map, List.length_range]; exact small_sz (by omega)) (fun d hd => ?_)]
    · rfl
    · match i with
      | 0 => rfl
      | 1 => rfl
      | 2 => rfl
      | 3 => rfl
      | 4 => rfl
      | 5 => rfl
      | 6 => rfl
      | 7 => rfl
      | 8 => rfl
      | 9 => rfl
      | 10 => rfl
      | 11 => rfl
      | i + 12 =>
        show some (if i + 12 < 12 then _ else none) = _
        rw [if_neg (by omega), List.getElem?_eq_none (by rw [List.length_map, List.length_range]; omega)]
    · obtain ⟨i, _, rfl⟩ := List.mem_map.mp hd
      exact ⟨_, rfl, rfl, fun _ => eOp_ok (x := .int i) (y := .int k) (A1 := A') (A2 := A') rfl rfl eq_int⟩
  have hne2 := tCmp_ok (k := false) hkd (hcp _) (ne_bls (bs := kthB k) (app_l (by rw [app_r, hB, ← hk, List.map_map]; rfl)) app_0 sh)
  refine ⟨[AO.lst (vs.take names.length), AO.lst (vs.take names.length)] ++ B ++ [AO.lst ((kthB k).map D.bl)], some (.ref A.length), ?_⟩
  rw [sIf_f hne2, List.append_assoc, List.append_assoc, List.append_assoc]
  rfl
end Pi

/-! Pm9: k01: all rows. -/
namespace Pi
open PyProof.Rows PySem L2 PySem.Spec

def lastL (k : Nat) : List D := [.tup [.exv "NothingToUndo" [] [], .ref (k + 17)], .tup [.exv "NothingToRedo" [] [], .ref (k + 18)]]
def allB (a b c : D) (k : Nat) : AH := madeB a b c k ++ [nmL [], nmL [], .lst (lastL k), .lst (rows1 a b k ++ rows2 a b k ++ rows3 a b c k ++ rows4 a b k ++ lastL k)]
theorem memN {c : Str} (h : (excN.any fun y => decide (y = c)) = true) : c ∈ excN := by
  obtain ⟨y, hy, e⟩ := List.any_eq_true.mp h
  exact of_decide_eq_true e ▸ hy
theorem memT {c : Str} (h : (ten.any fun y => decide (y = c)) = true) : c ∈ ten := by
  obtain ⟨y, hy, e⟩ := List.any_eq_true.mp h
  exact of_decide_eq_true e ▸ hy
theorem row_0 {A : AH} {a b c : D} : Row (A ++ allB a b c A.length) [a, b, c] 0 (.exv "BadText" ["word", "line"] [b, a]) (A.length + 0) := by
  refine ⟨⟨"BadText", ["word", "line"], [b, a], ["line", "word"], rfl, memN (by kernel_rfl), (app_r (i := 0)).trans rfl, by decide, by show 2 ≤ 3; omega, by kernel_rfl, by kernel_rfl, ?_, by kernel_rfl⟩, by kernel_rfl, by decide⟩
  intro i s h
  match i, s, h with
    | 0, s, h =>
      cases h
      exact ⟨memT (by kernel_rfl), a, rfl, fun A' => by kernel_rfl⟩
    | 1, s, h =>
      cases h
      exact ⟨memT (by kernel_rfl), b, rfl, fun A' => by kernel_rfl⟩
    | i + 2, s, h => simp at h
theorem row_1 {A : AH} {a b c : D} : Row (A ++ allB a b c A.length) [a, b, c] 1 (.exv "BadName" ["name"] [a]) (A.length + 1) := by
  refine ⟨⟨"BadName", ["name"], [a], ["name"], rfl, memN (by kernel_rfl), (app_r (i := 1)).trans rfl, by decide, by show 1 ≤ 3; omega, by kernel_rfl, by kernel_rfl, ?_, by kernel_rfl⟩, by kernel_rfl, by decide⟩
  intro i s h
  match i, s, h with
    | 0, s, h =>
      cases h
      exact ⟨memT (by kernel_rfl), a, rfl, fun A' => by kernel_rfl⟩
    | i + 1, s, h => simp at h
theorem row_2 {A : AH} {a b c : D} : Row (A ++ allB a b c A.length) [a, b, c] 2 (.exv "BadNumber" ["number", "what"] [b, a]) (A.length + 2) := by
  refine ⟨⟨"BadNumber", ["number", "what"], [b, a], ["what", "number"], rfl, memN (by kernel_rfl), (app_r (i := 2)).trans rfl, by decide, by show 2 ≤ 3; omega, by kernel_rfl, by kernel_rfl, ?_, by kernel_rfl⟩, by kernel_rfl, by decide⟩
  intro i s h
  match i, s, h with
    | 0, s, h =>
      cases h
      exact ⟨memT (by kernel_rfl), a, rfl, fun A' => by kernel_rfl⟩
    | 1, s, h =>
      cases h
      exact ⟨memT (by kernel_rfl), b, rfl, fun A' => by kernel_rfl⟩
    | i + 2, s, h => simp at h
theorem row_3 {A : AH} {a b c : D} : Row (A ++ allB a b c A.length) [a, b, c] 3 (.exv "BadRow" ["row", "what"] [b, a]) (A.length + 4) := by
  refine ⟨⟨"BadRow", ["row", "what"], [b, a], ["what", "row"], rfl, memN (by kernel_rfl), (app_r (i := 4)).trans rfl, by decide, by show 2 ≤ 3; omega, by kernel_rfl, by kernel_rfl, ?_, by kernel_rfl⟩, by kernel_rfl, by decide⟩
  intro i s h
  match i, s, h with
    | 0, s, h =>
      cases h
      exact ⟨memT (by kernel_rfl), a, rfl, fun A' => by kernel_rfl⟩
    | 1, s, h =>
      cases h
      exact ⟨memT (by kernel_rfl), b, rfl, fun A' => by kernel_rfl⟩
    | i + 2, s, h => simp at h
theorem row_4 {A : AH} {a b c : D} : Row (A ++ allB a b c A.length) [a, b, c] 4 (.exv "NoName" ["name"] [a]) (A.length + 5) := by
  refine ⟨⟨"NoName", ["name"], [a], ["name"], rfl, memN (by kernel_rfl), (app_r (i := 5)).trans rfl, by decide, by show 1 ≤ 3; omega, by kernel_rfl, by kernel_rfl, ?_, by kernel_rfl⟩, by kernel_rfl, by decide⟩
  intro i s h
  match i, s, h with
    | 0, s, h =>
      cases h
      exact ⟨memT (by kernel_rfl), a, rfl, fun A' => by kernel_rfl⟩
    | i + 1, s, h => simp at h
theorem row_5 {A : AH} {a b c : D} : Row (A ++ allB a b c A.length) [a, b, c] 5 (.exv "TakenName" ["name"] [a]) (A.length + 6) := by
  refine ⟨⟨"TakenName", ["name"], [a], ["name"], rfl, memN (by kernel_rfl), (app_r (i := 6)).trans rfl, by decide, by show 1 ≤ 3; omega, by kernel_rfl, by kernel_rfl, ?_, by kernel_rfl⟩, by kernel_rfl, by decide⟩
  intro i s h
  match i, s, h with
    | 0, s, h =>
      cases h
      exact ⟨memT (by kernel_rfl), a, rfl, fun A' => by kernel_rfl⟩
    | i + 1, s, h => simp at h
theorem row_6 {A : AH} {a b c : D} : Row (A ++ allB a b c A.length) [a, b, c] 6 (.exv "Unlike" ["what"] [a]) (A.length + 9) := by
  refine ⟨⟨"Unlike", ["what"], [a], ["what"], rfl, memN (by kernel_rfl), (app_r (i := 9)).trans rfl, by decide, by show 1 ≤ 3; omega, by kernel_rfl, by kernel_rfl, ?_, by kernel_rfl⟩, by kernel_rfl, by decide⟩
  intro i s h
  match i, s, h with
    | 0, s, h =>
      cases h
      exact ⟨memT (by kernel_rfl), a, rfl, fun A' => by kernel_rfl⟩
    | i + 1, s, h => simp at h
theorem row_7 {A : AH} {a b c : D} : Row (A ++ allB a b c A.length) [a, b, c] 7 (.exv "NotThere" ["what"] [a]) (A.length + 10) := by
  refine ⟨⟨"NotThere", ["what"], [a], ["what"], rfl, memN (by kernel_rfl), (app_r (i := 10)).trans rfl, by decide, by show 1 ≤ 3; omega, by kernel_rfl, by kernel_rfl, ?_, by kernel_rfl⟩, by kernel_rfl, by decide⟩
  intro i s h
  match i, s, h with
    | 0, s, h =>
      cases h
      exact ⟨memT (by kernel_rfl), a, rfl, fun A' => by kernel_rfl⟩
    | i + 1, s, h => simp at h
theorem row_8 {A : AH} {a b c : D} : Row (A ++ allB a b c A.length) [a, b, c] 8 (.exv "TooMany" ["limit", "many", "what"] [c, b, a]) (A.length + 11) := by
  refine ⟨⟨"TooMany", ["limit", "many", "what"], [c, b, a], ["what", "many", "limit"], rfl, memN (by kernel_rfl), (app_r (i := 11)).trans rfl, by decide, by show 3 ≤ 3; omega, by kernel_rfl, by kernel_rfl, ?_, by kernel_rfl⟩, by kernel_rfl, by decide⟩
  intro i s h
  match i, s, h with
    | 0, s, h =>
      cases h
      exact ⟨memT (by kernel_rfl), a, rfl, fun A' => by kernel_rfl⟩
    | 1, s, h =>
      cases h
      exact ⟨memT (by kernel_rfl), b, rfl, fun A' => by kernel_rfl⟩
    | 2, s, h =>
      cases h
      exact ⟨memT (by kernel_rfl), c, rfl, fun A' => by kernel_rfl⟩
    | i + 3, s, h => simp at h
theorem row_9 {A : AH} {a b c : D} : Row (A ++ allB a b c A.length) [a, b, c] 9 (.exv "NotKept" ["witness", "promise"] [b, a]) (A.length + 14) := by
  refine ⟨⟨"NotKept", ["witness", "promise"], [b, a], ["promise", "witness"], rfl, memN (by kernel_rfl), (app_r (i := 14)).trans rfl, by decide, by show 2 ≤ 3; omega, by kernel_rfl, by kernel_rfl, ?_, by kernel_rfl⟩, by kernel_rfl, by decide⟩
  intro i s h
  match i, s, h with
    | 0, s, h =>
      cases h
      exact ⟨memT (by kernel_rfl), a, rfl, fun A' => by kernel_rfl⟩
    | 1, s, h =>
      cases h
      exact ⟨memT (by kernel_rfl), b, rfl, fun A' => by kernel_rfl⟩
    | i + 2, s, h => simp at h
theorem row_10 {A : AH} {a b c : D} : Row (A ++ allB a b c A.length) [a, b, c] 10 (.exv "NothingToUndo" [] []) (A.length + 17) := by
  refine ⟨⟨"NothingToUndo", [], [], [], rfl, memN (by kernel_rfl), (app_r (i := 17)).trans rfl, by decide, by show 0 ≤ 3; omega, by kernel_rfl, by kernel_rfl, ?_, by kernel_rfl⟩, by kernel_rfl, by decide⟩
  intro i s h
  match i, s, h with
    | i, s, h => simp at h
theorem row_11 {A : AH} {a b c : D} : Row (A ++ allB a b c A.length) [a, b, c] 11 (.exv "NothingToRedo" [] []) (A.length + 18) := by
  refine ⟨⟨"NothingToRedo", [], [], [], rfl, memN (by kernel_rfl), (app_r (i := 18)).trans rfl, by decide, by show 0 ≤ 3; omega, by kernel_rfl, by kernel_rfl, ?_, by kernel_rfl⟩, by kernel_rfl, by decide⟩
  intro i s h
  match i, s, h with
    | i, s, h => simp at h
/-- the loop's items -/
def itemsL (a b c : D) (k : Nat) : List D := [.tup [.int 0, .tup [.exv "BadText" ["word", "line"] [b, a], .ref (k + 0)]], .tup [.int 1, .tup [.exv "BadName" ["name"] [a], .ref (k + 1)]], .tup [.int 2, .tup [.exv "BadNumber" ["number", "what"] [b, a], .ref (k + 2)]], .tup [.int 3, .tup [.exv "BadRow" ["row", "what"] [b, a], .ref (k + 4)]], .tup [.int 4, .tup [.exv "NoName" ["name"] [a], .ref (k + 5)]], .tup [.int 5, .tup [.exv "TakenName" ["name"] [a], .ref (k + 6)]], .tup [.int 6, .tup [.exv "Unlike" ["what"] [a], .ref (k + 9)]], .tup [.int 7, .tup [.exv "NotThere" ["what"] [a], .ref (k + 10)]], .tup [.int 8, .tup [.exv "TooMany" ["limit", "many", "what"] [c, b, a], .ref (k + 11)]], .tup [.int 9, .tup [.exv "NotKept" ["witness", "promise"] [b, a], .ref (k + 14)]], .tup [.int 10, .tup [.exv "NothingToUndo" [] [], .ref (k + 17)]], .tup [.int 11, .tup [.exv "NothingToRedo" [] [], .ref (k + 18)]]]
theorem items_at {a b c : D} {k : Nat} : ∀ i : Nat, (((rows1 a b k ++ rows2 a b k ++ rows3 a b c k ++ rows4 a b k ++ lastL k)[i]?).map fun d => D.tup [.int i, d]) = (itemsL a b c k)[i]?
  | 0 => rfl
  | 1 => rfl
  | 2 => rfl
  | 3 => rfl
  | 4 => rfl
  | 5 => rfl
  | 6 => rfl
  | 7 => rfl
  | 8 => rfl
  | 9 => rfl
  | 10 => rfl
  | 11 => rfl
  | i + 12 => by
    rw [List.getElem?_eq_none (by show 12 ≤ i + 12; omega), List.getElem?_eq_none (by show 12 ≤ i + 12; omega)]
    rfl
theorem items_row {A : AH} {a b c : D} : ∀ (i : Nat) (d : D), (itemsL a b c A.length)[i]? = some d → ∃ (k : Nat) (one : D) (n : Nat), d = .tup [.int k, .tup [one, .ref n]] ∧ Row (A ++ allB a b c A.length) [a, b, c] k one n
  | 0, d, h => by
    cases h
    exact ⟨0, _, _, rfl, row_0⟩
  | 1, d, h => by
    cases h
    exact ⟨1, _, _, rfl, row_1⟩
  | 2, d, h => by
    cases h
    exact ⟨2, _, _, rfl, row_2⟩
  | 3, d, h => by
    cases h
    exact ⟨3, _, _, rfl, row_3⟩
  | 4, d, h => by
    cases h
    exact ⟨4, _, _, rfl, row_4⟩
  | 5, d, h => by
    cases h
    exact ⟨5, _, _, rfl, row_5⟩
  | 6, d, h => by
    cases h
    exact ⟨6, _, _, rfl, row_6⟩
  | 7, d, h => by
    cases h
    exact ⟨7, _, _, rfl, row_7⟩
  | 8, d, h => by
    cases h
    exact ⟨8, _, _, rfl, row_8⟩
  | 9, d, h => by
    cases h
    exact ⟨9, _, _, rfl, row_9⟩
  | 10, d, h => by
    cases h
    exact ⟨10, _, _, rfl, row_10⟩
  | 11, d, h => by
    cases h
    exact ⟨11, _, _, rfl, row_11⟩
  | i + 12, d, h => by
    rw [List.getElem?_eq_none (by show 12 ≤ i + 12; omega)] at h
    cases h
end Pi

/-! Pm10: k01: the law. -/
namespace Pi
open PyProof.Rows PySem L2 PySem.Spec

theorem app_step2 {T : Mts} {e : EM} {ρ : Fr} {A A2 : AH} {i l : Nat} {xs xs0 : List D} {y : D} (hl : A[l]? = some (.lst xs0)) (ho : eVar i ρ A = .ok (.ref l) A) (he : e ρ A = .ok y A2) (hl2 : A2[l]? = some (.lst xs)) (hz : xs.length < 1000) :
    sExp (eMeth T "append" (eVar i) (aCons e aNil)) ρ A = .nx ρ (A2.set l (.lst (xs ++ [y]))) := by
  have hk : kdM T A "append" (.ref l) = some .lst := by
    unfold kdM kdOf
    simp only [hl]
    rfl
  have hz2 : xs.length < sizeLine := by
    rw [sizeLine_eq]
    omega
  have ha : methD T .lst "append" (.ref l) [y] A2 = .ok .non (A2.set l (.lst (xs ++ [y]))) := by
    show appendD (.ref l) [y] A2 = _
    unfold appendD onLst onRef
    simp only [hl2, if_pos hz2]
    rfl
  unfold sExp inE eMeth bnd
  simp only [ho, hk, aCons_ok he aNil_ok, ha]
  rfl
theorem py_nest {A : AH} {a b : Nat} (ha : A[a]? = some (.lst [.int 1, .ref b, .int 3])) (hb : A[b]? = some (.lst [.int 2])) : pyH A (.ref a) = some (.list [.int 1, .list [.int 2], .int 3]) := by
  have e1 : lkH A 7 b = some (.list [.int 2]) := by
    unfold lkH
    rw [hb]
    rfl
  show lkH A 8 a = _
  unfold lkH
  rw [ha]
  show (D.pys (lkH A 7) [.int 1, .ref b, .int 3]).map PyData.list = _
  unfold D.pys
  show (match some (PyData.int 1) with
    | some d => (match D.pys (lkH A 7) [.ref b, .int 3] with
      | some t => some (d :: t)
      | none => none)
    | none => none).map PyData.list = _
  unfold D.pys
  show (match some (PyData.int 1) with
    | some d => (match (match lkH A 7 b with
      | some d => (match D.pys (lkH A 7) [.int 3] with
        | some t => some (d :: t)
        | none => none)
      | none => none) with
      | some t => some (d :: t)
      | none => none)
    | none => none).map PyData.list = _
  rw [e1]
  rfl
theorem eq_nest {A : AH} {a b c d : Nat} (ha : A[a]? = some (.lst [.int 1, .ref b, .int 3])) (hb : A[b]? = some (.lst [.int 2])) (hc : A[c]? = some (.lst [.int 1, .ref d, .int 3])) (hd : A[d]? = some (.lst [.int 2])) :
    eqD (.ref a) (.ref c) A = .ok (.bl true) A ∧ neD (.ref a) (.ref c) A = .ok (.bl false) A := by
  have s1 : SeqAt.shaped (.list [.int 1, .list [.int 2], .int 3]) = true := by kernel_rfl
  have s2 : PyData.eqv (.list [.int 1, .list [.int 2], .int 3]) (.list [.int 1, .list [.int 2], .int 3]) = true := by kernel_rfl
  constructor
  · unfold eqD eqB
    simp only [py_nest ha hb, py_nest hc hd, s1, and_self, if_true, s2]
  · unfold neD eqB
    simp only [py_nest ha hb, py_nest hc hd, s1, and_self, if_true, s2]
    rfl
theorem eq_bls {A : AH} {a b : Nat} {bs : List Bool} (ha : A[a]? = some (.lst (bs.map D.bl))) (hb : A[b]? = some (.lst (bs.map D.bl))) (h : (SeqAt.shaped (.list (bs.map PyData.bool)) && PyData.eqv (.list (bs.map PyData.bool)) (.list (bs.map PyData.bool))) = true) : eqD (.ref a) (.ref b) A = .ok (.bl true) A := by
  obtain ⟨h1, h2⟩ := an h
  unfold eqD eqB
  simp only [py_bls ha, py_bls hb, h1, and_self, if_true, h2]
/-- [1, [2], 3], [1, [2]] laid -/
theorem nest3 {ρ : Fr} {A : AH} : eLst (aCons (eC (.int 1)) (aCons (eLst (aCons (eC (.int 2)) aNil)) (aCons (eC (.int 3)) aNil))) ρ A = .ok (.ref (A.length + 1)) (A ++ [.lst [.int 2], .lst [.int 1, .ref A.length, .int 3]]) := by
  have e := eLst_ok (aCons_ok (kC (d := .int 1) (ρ := ρ) (A := A)) (aCons_ok (eLst_ok (aCons_ok (kC (d := .int 2) (ρ := ρ) (A := A)) aNil_ok) (by decide)) (aCons_ok (kC (d := .int 3)) aNil_ok))) (by show 3 ≤ 1000; omega)
  simp only [List.append_assoc, List.cons_append, List.nil_append, List.length_append, List.length_cons, List.length_nil, Nat.reduceAdd] at e
  exact e
theorem nest2 {ρ : Fr} {A : AH} : eLst (aCons (eC (.int 1)) (aCons (eLst (aCons (eC (.int 2)) aNil)) aNil)) ρ A = .ok (.ref (A.length + 1)) (A ++ [.lst [.int 2], .lst [.int 1, .ref A.length]]) := by
  have e := eLst_ok (aCons_ok (kC (d := .int 1) (ρ := ρ) (A := A)) (aCons_ok (eLst_ok (aCons_ok (kC (d := .int 2) (ρ := ρ) (A := A)) aNil_ok) (by decide)) aNil_ok)) (by show 2 ≤ 1000; omega)
  simp only [List.append_assoc, List.cons_append, List.nil_append, List.length_append, List.length_cons, List.length_nil, Nat.reduceAdd] at e
  exact e
theorem set_r {A B : AH} {i : Nat} {o : AO} : (A ++ B).set (A.length + i) o = A ++ B.set i o := by
  rw [List.set_append_right _ _ (Nat.le_add_right _ _), Nat.add_sub_cancel_left]
noncomputable def tailB (F : FEnv) : SM :=
  (sSeq (sAsg (eLst (aCons (eC (.int 1)) (aCons (eLst (aCons (eC (.int 2)) aNil)) aNil))) (gNam 8))
  (sSeq (sAsg (eExc "BadRow" 2 [("what", 1), ("row", 2)] (aCons (eC (.str "x")) (aCons (eVar 8) aNil))) (gNam 9))
  (sSeq (sExp (eMeth (mtsT F) "append" (eVar 8) (aCons (eC (.int 3)) aNil)))
  (sSeq (sIf (tCmp neD (eFldX attT exaT "row" (eVar 9)) (eLst (aCons (eC (.int 1)) (aCons (eLst (aCons (eC (.int 2)) aNil)) (aCons (eC (.int 3)) aNil)))))
  (sRet (eC (.bl false)))
  sNx)
  (sSeq (sAsg (eLst aNil) (gNam 10))
  (sSeq (sTry exsT (sRaise "NotThere" 1 [("what", 1)] (aCons (eLst (aCons (eC (.int 1)) (aCons (eLst (aCons (eC (.int 2)) aNil)) (aCons (eC (.int 3)) aNil)))) aNil)) [⟨"TalkError", some 11, (sExp (eMeth noMts "append" (eVar 10) (aCons (eAnd (eIsi subT ["ValueError"] (eVar 11)) (eAnd (eIsi subT ["NotThere"] (eVar 11)) (eOp eqD (eFldX attT exaT "what" (eVar 11)) (eLst (aCons (eC (.int 1)) (aCons (eLst (aCons (eC (.int 2)) aNil)) (aCons (eC (.int 3)) aNil))))))) aNil)))⟩])
  (sRet (eOp eqD (eVar 10) (eLst (aCons (eC (.bl true)) aNil))))))))))
theorem tail_spec {F : FEnv} {A : AH} {s p v : D} {o3 o4 o5 o6 o7 : Option D} : ∃ A', tailB F (frL s p v o3 o4 o5 o6 o7) A = .rt (.bl true) A' := by
  unfold tailB
  rw [sSeq_nx (sAsg_ok (ρ' := [some s, some p, some v, o3, o4, o5, o6, o7, some (.ref (A.length + 1)), none, none, none, none]) nest2 rfl)]
  have hx : eExc "BadRow" 2 [("what", 1), ("row", 2)] (aCons (eC (.str "x")) (aCons (eVar 8) aNil)) [some s, some p, some v, o3, o4, o5, o6, o7, some (.ref (A.length + 1)), none, none, none, none] (A ++ [AO.lst [.int 2], AO.lst [.int 1, .ref A.length]]) =
      .ok (.exv "BadRow" ["row", "what"] [.ref (A.length + 1), .str "x"]) (A ++ [AO.lst [.int 2], AO.lst [.int 1, .ref A.length]]) := eExc_ok (aCons_ok (d := .str "x") kC (aCons_ok (d := .ref (A.length + 1)) rfl aNil_ok)) rfl
  rw [sSeq_nx (sAsg_ok (ρ' := [some s, some p, some v, o3, o4, o5, o6, o7, some (.ref (A.length + 1)), some (.exv "BadRow" ["row", "what"] [.ref (A.length + 1), .str "x"]), none, none, none]) hx rfl)]
  rw [sSeq_nx (app_step (xs := [.int 1, .ref A.length]) (l := A.length + 1) (app_r (i := 1)) rfl kC (by show 2 < 1000; omega)), set_r]
  have hrow : eFldX attT exaT "row" (eVar 9) [some s, some p, some v, o3, o4, o5, o6, o7, some (.ref (A.length + 1)), some (.exv "BadRow" ["row", "what"] [.ref (A.length + 1), .str "x"]), none, none, none] (A ++ [AO.lst [.int 2], AO.lst [.int 1, .ref A.length]].set 1 (AO.lst ([.int 1, .ref A.length] ++ [.int 3]))) =
      .ok (.ref (A.length + 1)) (A ++ [AO.lst [.int 2], AO.lst [.int 1, .ref A.length, .int 3]]) := by kernel_rfl
  have n3 := nest3 (ρ := [some s, some p, some v, o3, o4, o5, o6, o7, some (.ref (A.length + 1)), some (.exv "BadRow" ["row", "what"] [.ref (A.length + 1), .str "x"]), none, none, none]) (A := A ++ [AO.lst [.int 2], AO.lst [.int 1, .ref A.length, .int 3]])
  simp only [List.append_assoc, List.cons_append, List.nil_append, List.length_append, List.length_cons, List.length_nil, Nat.reduceAdd, Nat.add_assoc] at n3
  rw [skip_if (tCmp_ok hrow n3 (eq_nest (app_r (i := 1)) app_0 (app_r (i := 3)) (app_r (i := 2))).2)]
  have n4 := eLst_ok (ρ := [some s, some p, some v, o3, o4, o5, o6, o7, some (.ref (A.length + 1)), some (.exv "BadRow" ["row", "what"] [.ref (A.length + 1), .str "x"]), none, none, none]) (aNil_ok (A := A ++ [AO.lst [.int 2], AO.lst [.int 1, .ref A.length, .int 3], AO.lst [.int 2], AO.lst [.int 1, .ref (A.length + 2), .int 3]])) (by decide)
  simp only [List.append_assoc, List.cons_append, List.nil_append, List.length_append, List.length_cons, List.length_nil, Nat.reduceAdd, Nat.add_assoc] at n4
  rw [sSeq_nx (sAsg_ok (ρ' := [some s, some p, some v, o3, o4, o5, o6, o7, some (.ref (A.length + 1)), some (.exv "BadRow" ["row", "what"] [.ref (A.length + 1), .str "x"]), some (.ref (A.length + 4)), none, none]) n4 rfl)]
  have n5 := nest3 (ρ := [some s, some p, some v, o3, o4, o5, o6, o7, some (.ref (A.length + 1)), some (.exv "BadRow" ["row", "what"] [.ref (A.length + 1), .str "x"]), some (.ref (A.length + 4)), none, none]) (A := A ++ [AO.lst [.int 2], AO.lst [.int 1, .ref A.length, .int 3], AO.lst [.int 2], AO.lst [.int 1, .ref (A.length + 2), .int 3], AO.lst []])
  simp only [List.append_assoc, List.cons_append, List.nil_append, List.length_append, List.length_cons, List.length_nil, Nat.reduceAdd, Nat.add_assoc] at n5
  have tr : sTry exsT (sRaise "NotThere" 1 [("what", 1)] (aCons (eLst (aCons (eC (.int 1)) (aCons (eLst (aCons (eC (.int 2)) aNil)) (aCons (eC (.int 3)) aNil)))) aNil)) [⟨"TalkError", some 11, (sExp (eMeth noMts "append" (eVar 10) (aCons (eAnd (eIsi subT ["ValueError"] (eVar 11)) (eAnd (eIsi subT ["NotThere"] (eVar 11)) (eOp eqD (eFldX attT exaT "what" (eVar 11)) (eLst (aCons (eC (.int 1)) (aCons (eLst (aCons (eC (.int 2)) aNil)) (aCons (eC (.int 3)) aNil))))))) aNil)))⟩]
      [some s, some p, some v, o3, o4, o5, o6, o7, some (.ref (A.length + 1)), some (.exv "BadRow" ["row", "what"] [.ref (A.length + 1), .str "x"]), some (.ref (A.length + 4)), none, none] (A ++ [AO.lst [.int 2], AO.lst [.int 1, .ref A.length, .int 3], AO.lst [.int 2], AO.lst [.int 1, .ref (A.length + 2), .int 3], AO.lst []]) =
      .nx [some s, some p, some v, o3, o4, o5, o6, o7, some (.ref (A.length + 1)), some (.exv "BadRow" ["row", "what"] [.ref (A.length + 1), .str "x"]), some (.ref (A.length + 4)), none, none]
        (A ++ [AO.lst [.int 2], AO.lst [.int 1, .ref A.length, .int 3], AO.lst [.int 2], AO.lst [.int 1, .ref (A.length + 2), .int 3], AO.lst [.bl true], AO.lst [.int 2], AO.lst [.int 1, .ref (A.length + 5), .int 3], AO.lst [.int 2], AO.lst [.int 1, .ref (A.length + 7), .int 3]]) := by
    unfold sTry sRaise inE
    simp only [aCons_ok n5 aNil_ok]
    show hdGo exsT _ "NotThere" [("what", .ref (A.length + 6))] _ _ = _
    unfold hdGo
    simp only [show exsT "NotThere" "TalkError" = some true from by kernel_rfl]
    have n6 := nest3 (ρ := [some s, some p, some v, o3, o4, o5, o6, o7, some (.ref (A.length + 1)), some (.exv "BadRow" ["row", "what"] [.ref (A.length + 1), .str "x"]), some (.ref (A.length + 4)), some (.exv "NotThere" ["what"] [.ref (A.length + 6)]), none]) (A := A ++ [AO.lst [.int 2], AO.lst [.int 1, .ref A.length, .int 3], AO.lst [.int 2], AO.lst [.int 1, .ref (A.length + 2), .int 3], AO.lst [], AO.lst [.int 2], AO.lst [.int 1, .ref (A.length + 5), .int 3]])
    simp only [List.append_assoc, List.cons_append, List.nil_append, List.length_append, List.length_cons, List.length_nil, Nat.reduceAdd, Nat.add_assoc] at n6
    have e1 : ∀ (x : Str) (L : Nat) (A : AH), x ∈ excC → isKind "NotThere" x = true → eIsi subT [x] (eVar 11) [some s, some p, some v, o3, o4, o5, o6, o7, some (.ref (L + 1)), some (.exv "BadRow" ["row", "what"] [.ref (L + 1), .str "x"]), some (.ref (L + 4)), some (.exv "NotThere" ["what"] [.ref (L + 6)]), none] A = .ok (.bl true) A := by
      intro x L A hx hk
      have sb := of_decide_eq_true (List.all_eq_true.mp (List.all_eq_true.mp sub_all "NotThere" (memN (by kernel_rfl))) x hx)
      have hi : isiN subT (.exc "NotThere") [x] = some true := by
        unfold isiN
        rw [sb, hk]
      unfold eIsi bnd isiD tyD
      simp only [show eVar 11 [some s, some p, some v, o3, o4, o5, o6, o7, some (.ref (L + 1)), some (.exv "BadRow" ["row", "what"] [.ref (L + 1), .str "x"]), some (.ref (L + 4)), some (.exv "NotThere" ["what"] [.ref (L + 6)]), none] A = .ok (.exv "NotThere" ["what"] [.ref (L + 6)]) A from rfl, hi]
    have fw : ∀ (L : Nat) (A : AH), eFldX attT exaT "what" (eVar 11) [some s, some p, some v, o3, o4, o5, o6, o7, some (.ref (L + 1)), some (.exv "BadRow" ["row", "what"] [.ref (L + 1), .str "x"]), some (.ref (L + 4)), some (.exv "NotThere" ["what"] [.ref (L + 6)]), none] A = .ok (.ref (L + 6)) A := fun L A => by kernel_rfl
    have an3 := eOp_ok (g := eqD) (fw A.length _) n6 (eq_nest (app_r (i := 6)) (app_r (i := 5)) (app_r (i := 8)) (app_r (i := 7))).1
    have and_t : ∀ {a b : EM} {ρ : Fr} {A A2 : AH} {y : D}, a ρ A = .ok (.bl true) A → b ρ A = .ok y A2 → eAnd a b ρ A = .ok y A2 := fun {a b ρ A A2 y} h1 h2 => by
      unfold eAnd bnd
      simp only [h1, show truD A (.bl true) = some true from rfl, if_true, h2]
    have st := app_step2 (T := noMts) (i := 10) (l := A.length + 4) (xs := []) (xs0 := []) (app_r (i := 4)) rfl (and_t (e1 "ValueError" A.length _ (by decide) (by kernel_rfl)) (and_t (e1 "NotThere" A.length _ (by decide) (by kernel_rfl)) an3)) (app_r (i := 4)) (by decide)
    rw [set_r] at st
    refine Eq.trans (congrArg (leave (some 11)) st) ?_
    rfl
  rw [sSeq_nx tr]
  have n7 := eLst_ok (aCons_ok (kC (d := .bl true) (ρ := [some s, some p, some v, o3, o4, o5, o6, o7, some (.ref (A.length + 1)), some (.exv "BadRow" ["row", "what"] [.ref (A.length + 1), .str "x"]), some (.ref (A.length + 4)), none, none]) (A := (A ++ [AO.lst [.int 2], AO.lst [.int 1, .ref A.length, .int 3], AO.lst [.int 2], AO.lst [.int 1, .ref (A.length + 2), .int 3], AO.lst [.bl true], AO.lst [.int 2], AO.lst [.int 1, .ref (A.length + 5), .int 3], AO.lst [.int 2], AO.lst [.int 1, .ref (A.length + 7), .int 3]]))) aNil_ok) (by decide)
  simp only [List.append_assoc, List.cons_append, List.nil_append, List.length_append, List.length_cons, List.length_nil, Nat.reduceAdd, Nat.add_assoc] at n7
  exact ⟨_, sRet_ok (eOp_ok (x := .ref (A.length + 4)) rfl n7 (eq_bls (bs := [true]) (app_r (i := 4)) (app_r (i := 9)) (by kernel_rfl)))⟩
end Pi

/-! Pm11: k01: the law holds of its reading. -/
namespace Pi
open PyProof.Rows PySem L2 PySem.Spec

theorem law_true (ns : List Int) (hl : ns.length ≤ 63) : ∃ A', lawD.den 6 ("law", none) [.frl (ns.map D.int)] [] = .ok (.bl true) A' := by
  obtain ⟨fd, h0, e0⟩ := pen_spec (F := lawD.den 4) (A := []) (ns := ns) hl
  obtain ⟨d0, A1, a1, g1, f1, v0, p1, k1, e1⟩ := value_spec (F := lawD.den 4) (F' := lawD.den 3) (F2 := lawD.den 2) rfl rfl h0 (by decide)
  obtain ⟨d1, A2, a2, g2, f2, v1, p2, k2, e2⟩ := value_spec (F := lawD.den 4) (F' := lawD.den 3) (F2 := lawD.den 2) rfl rfl p1 (by decide)
  obtain ⟨d2, A3, a3, g3, f3, v2, p3, k3, e3⟩ := value_spec (F := lawD.den 4) (F' := lawD.den 3) (F2 := lawD.den 2) rfl rfl p2 (by decide)
  have w0 : Val A3 d0 := k3 _ (k2 _ v0)
  have w1 : Val A3 d1 := k3 _ v1
  have main : ∃ A', b_law (lawD.den 5) [some (.frl (ns.map D.int)), none, none, none, none, none, none, none, none, none, none, none, none] [] = .rt (.bl true) A' := by
    unfold b_law
    have c0 : eCall (lawD.den 5 ("_law_pen", none)) (aCons (eVar 0) aNil) [some (.frl (ns.map D.int)), none, none, none, none, none, none, none, none, none, none, none, none] [] = .ok (.ref 1) ([] ++ [.lst (ns.map D.int), penO 0 0 0 0 fd]) :=
      (eCall_ok (aCons_ok (d := .frl (ns.map D.int)) (A1 := []) rfl aNil_ok)).trans e0
    have q0 := sAsg_ok (g := gNam 1) (ρ' := (frL (.frl (ns.map D.int)) (.ref 1) .non none none none none none).set 2 none) c0 rfl
    have cv : ∀ {A A' : AH} {d : D}, runB 1 (b__law_value (lawD.den 4)) [.ref 1] A = .ok d A' → eCall (lawD.den 5 ("_law_value", none)) (aCons (eVar 1) aNil) ((frL (.frl (ns.map D.int)) (.ref 1) .non none none none none none).set 2 none) A = .ok d A' :=
      fun {A A' d} h => (eCall_ok (aCons_ok (d := .ref 1) (A1 := A) rfl aNil_ok)).trans h
    have cl := eLst_ok (aCons_ok (cv e1) (aCons_ok (cv e2) (aCons_ok (cv e3) aNil_ok))) (by show 3 ≤ 1000; omega)
    have q1 := sAsg_ok (g := gNam 2) (ρ' := frL (.frl (ns.map D.int)) (.ref 1) (.ref A3.length) none none none none none) cl rfl
    -- the loop's source
    obtain ⟨A4, hA4⟩ : ∃ A4, A3 ++ [AO.lst [d0, d1, d2]] = A4 := ⟨_, rfl⟩
    rw [hA4] at q1
    have hv : A4[A3.length]? = some (.lst [d0, d1, d2]) := by rw [← hA4]; exact app_0
    have hd : ∀ d ∈ [d0, d1, d2], Val A4 d := by
      rw [← hA4]
      intro d hd
      simp only [List.mem_cons, List.not_mem_nil, or_false] at hd
      rcases hd with rfl | rfl | rfl
      · exact w0.app
      · exact w1.app
      · exact v2.app
    have m1 : eCall (lawD.den 5 ("_law_made_errors", none)) (aCons (eOp getD (eVar 2) (eC (.int 0))) (aCons (eOp getD (eVar 2) (eC (.int 1))) (aCons (eOp getD (eVar 2) (eC (.int 2))) aNil))) (frL (.frl (ns.map D.int)) (.ref 1) (.ref A3.length) none none none none none) A4 =
        .ok (.ref (A4.length + 16)) (A4 ++ madeB d0 d1 d2 A4.length) :=
      (eCall_ok (aCons_ok (eOp_ok (x := .ref A3.length) (A1 := A4) rfl kC (get_lst hv rfl)) (aCons_ok (eOp_ok (x := .ref A3.length) (A1 := A4) rfl kC (get_lst hv rfl)) (aCons_ok (eOp_ok (x := .ref A3.length) (A1 := A4) rfl kC (get_lst hv rfl)) aNil_ok)))).trans (made_spec (F := lawD.den 4))
    have le : ∀ {ρ : Fr} {A : AH}, eLst aNil ρ A = .ok (.ref A.length) (A ++ [nmL []]) := fun {ρ A} => rfl
    have m2 := eLst_ok (aCons_ok (pair_ok (ρ := frL (.frl (ns.map D.int)) (.ref 1) (.ref A3.length) none none none none none) (kC (d := exvOf "NothingToUndo" []) (A := A4 ++ madeB d0 d1 d2 A4.length)) le) (aCons_ok (pair_ok (kC (d := exvOf "NothingToRedo" [])) le) aNil_ok)) (by show 2 ≤ 1000; omega)
    have t17 : (madeB d0 d1 d2 A4.length).length = 17 := rfl
    simp only [List.append_assoc, List.cons_append, List.nil_append, List.length_append, List.length_cons, List.length_nil, Nat.reduceAdd, t17, Nat.add_assoc] at m2
    have m3 := eOp_ok (g := addD) m1 m2 (add_lst (app_r (i := 16)) (app_r (i := 19)) (by show 12 ≤ 1000; omega))
    simp only [List.append_assoc, List.cons_append, List.nil_append, List.length_append, List.length_cons, List.length_nil, Nat.reduceAdd, t17, Nat.add_assoc] at m3
    have m3 := m3.trans (show _ = R.ok (D.ref (A4.length + 20)) (A4 ++ allB d0 d1 d2 A4.length) from by
      unfold allB lastL
      simp only [List.append_assoc, List.cons_append, List.nil_append]
      rfl)
    have hrow : (A4 ++ allB d0 d1 d2 A4.length)[A4.length + 20]? = some (.lst (rows1 d0 d1 A4.length ++ rows2 d0 d1 A4.length ++ rows3 d0 d1 d2 A4.length ++ rows4 d0 d1 A4.length ++ lastL A4.length)) := app_r (i := 20)
    have m4 : mEnu (eOp addD (eCall (lawD.den 5 ("_law_made_errors", none)) (aCons (eOp getD (eVar 2) (eC (.int 0))) (aCons (eOp getD (eVar 2) (eC (.int 1))) (aCons (eOp getD (eVar 2) (eC (.int 2))) aNil)))) (eLst (aCons (eTup (aCons (eC (exvOf "NothingToUndo" [])) (aCons (eLst aNil) aNil))) (aCons (eTup (aCons (eC (exvOf "NothingToRedo" [])) (aCons (eLst aNil) aNil))) aNil))))
        (frL (.frl (ns.map D.int)) (.ref 1) (.ref A3.length) none none none none none) A4 = .ok (srcE (srcR (A4.length + 20))) (A4 ++ allB d0 d1 d2 A4.length) := by
      have ls : lstOf (.ref (A4.length + 20)) (A4 ++ allB d0 d1 d2 A4.length) = .ok (srcR (A4.length + 20)) (A4 ++ allB d0 d1 d2 A4.length) := by
        unfold lstOf onRef
        simp only [hrow]
        rfl
      unfold mEnu bnd
      simp only [m3, ls]
      rfl
    have lp : ∃ ρ' A', sFor (mEnu (eOp addD (eCall (lawD.den 5 ("_law_made_errors", none)) (aCons (eOp getD (eVar 2) (eC (.int 0))) (aCons (eOp getD (eVar 2) (eC (.int 1))) (aCons (eOp getD (eVar 2) (eC (.int 2))) aNil)))) (eLst (aCons (eTup (aCons (eC (exvOf "NothingToUndo" [])) (aCons (eLst aNil) aNil))) (aCons (eTup (aCons (eC (exvOf "NothingToRedo" [])) (aCons (eLst aNil) aNil))) aNil)))))
        (gTup [(gNam 3), (gNam 4)]) (turnB (lawD.den 5)) (frL (.frl (ns.map D.int)) (.ref 1) (.ref A3.length) none none none none none) A4 = .nx ρ' A' ∧ ∃ B, A' = (A4 ++ allB d0 d1 d2 A4.length) ++ B ∧ ∃ o3 o4 o5 o6 o7, ρ' = frL (.frl (ns.map D.int)) (.ref 1) (.ref A3.length) o3 o4 o5 o6 o7 := by
      rw [sFor_ok m4]
      refine for_inv (xs := itemsL d0 d1 d2 A4.length) (fun i ρ A' => ∃ B, A' = (A4 ++ allB d0 d1 d2 A4.length) ++ B ∧ ∃ o3 o4 o5 o6 o7, ρ = frL (.frl (ns.map D.int)) (.ref 1) (.ref A3.length) o3 o4 o5 o6 o7) ?_ ?_ ⟨[], (List.append_nil _).symm, _, _, _, _, _, rfl⟩
      · rintro i ρ A' ⟨B, rfl, _⟩
        show ((match ((A4 ++ allB d0 d1 d2 A4.length) ++ B)[A4.length + 20]? with
          | some (.lst xs) => some xs[i]?
          | _ => none).map fun o : Option D => o.map fun d => D.tup [.int i, d]) = _
        rw [app_l hrow, ← items_at i]
        rfl
      · rintro i d ρ A' hi ⟨B, rfl, o3, o4, o5, o6, o7, rfl⟩
        obtain ⟨k, one, n, rfl, R⟩ := items_row i d hi
        obtain ⟨B2, o7', et⟩ := turn_spec (F := lawD.den 5) (F1 := lawD.den 4) (F2 := lawD.den 4) rfl rfl (A := (A4 ++ allB d0 d1 d2 A4.length) ++ B) (s := .frl (ns.map D.int)) (p := .ref 1) (o5 := o5) (o6 := o6) (o7 := o7) (app_l (app_l hv)) (by show 3 ≤ 3; omega) (fun d hd' => ((hd d hd').app).app) R.app
        exact ⟨_, _, _, _, rfl, .inl et, B ++ B2, List.append_assoc _ _ _, _, _, _, _, _, rfl⟩
    obtain ⟨ρ', A', el, B, rfl, o3, o4, o5, o6, o7, rfl⟩ := lp
    obtain ⟨A9, et⟩ := tail_spec (F := lawD.den 5) (A := (A4 ++ allB d0 d1 d2 A4.length) ++ B) (s := .frl (ns.map D.int)) (p := .ref 1) (v := .ref A3.length) (o3 := o3) (o4 := o4) (o5 := o5) (o6 := o6) (o7 := o7)
    exact ⟨A9, (sSeq_nx q0).trans ((sSeq_nx q1).trans ((sSeq_nx el).trans et))⟩
  obtain ⟨A', e⟩ := main
  exact ⟨A', runB_rt e⟩
end Pi

open PyProof.Rows PySem PySem.W PySem.Calls
theorem PySem.Challenge.cw_onebusyline_k01_errors_holds : PySem.Challenge.rw_onebusyline_k01_errors.Holds := by
  w_on; o_law
  refine HandSHeadRun.head_any (r := Pi.rowR) (q := view Pi.rowR.prog [22]) (H := Pi.hkL) (ob := Pi.obL) (M := 8000) (loose := Pi.looseN) (d := HandSHeadRun.topDef Pi.rowR.prog 22) (kwd := []) Pi.ob_eq
    (by kernel_rfl) (fun s => by kernel_rfl) Pi.run_eq (by kernel_rfl) (by kernel_rfl) (by kernel_rfl) (by rfl) (by first | assumption | decide +kernel) (by decide +kernel) ⟨rfl, rfl, rfl, rfl, rfl, by decide +kernel⟩ ?hw ?hc
  case hw => w_witness2
  case hc =>
    exact Pi.walkP (l := PySem.Challenge.rw_onebusyline_k01_errors) (m := 63) (n := 6) (x := "script") (L := Pi.lawD) (f := Pi.f_law) rfl (by decide) (by kernel_rfl) ⟨rfl, by decide, by decide⟩ (by kernel_rfl) (by kernel_rfl) (by kernel_rfl) Pi.wf_ok Pi.reads Pi.law_true

